import PyProof.Rows.All
import Wide.All
import OpenK.AllK
import Wide.FinOn
import HandS.ForMost
import HandS.ForExc
import HandS.Flow
import HandS.Style
import HandS.Wide
import HandS.TupAny
import HandS.IsInst
import HandS.Deep
import HandS.NoneIn
import HandS.ExcCtx
import HandS.HotCalls
import HandS.CallSlots
import HandS.More
import PyProof.Rows.CallKwBuiltin
import KE.DataMinMax
import KE.SortData
import HandS.Head0
import HandS.Head1
import HandS.Head2
import HandS.HeadEnd
import HandS.HeadHook1
import HandS.HeadHook2
import HandS.EndBits
import PySem.Challenge.RW_partproof_k31_pairs_of_calls
set_option Elab.async false
set_option linter.all false
set_option maxRecDepth 100000
/-! C1: a small pure interpreter: values, a pure heap, expressions, statements, defs. -/
namespace Mp
open PySem (Str)

/-- a value; scr: a list that is only read (the script); lst is no value of a run, it stands for a list that was looked through -/
inductive D where
  | non | bl (b : Bool) | int (i : Int) | str (x : Str) | tup (ds : List D) | ref (l : Nat) | fn (k : Nat) | exn (c : Nat) | lst (ds : List D) | scr (ds : List D)

mutual
def D.beq : D → D → Bool
  | .non, .non => true
  | .bl a, .bl b => a == b
  | .int a, .int b => decide (a = b)
  | .str a, .str b => decide (a = b)
  | .tup a, .tup b => D.beqs a b
  | .ref a, .ref b => a == b
  | .fn a, .fn b => a == b
  | .exn a, .exn b => a == b
  | .lst a, .lst b => D.beqs a b
  | .scr a, .scr b => D.beqs a b
  | _, _ => false
def D.beqs : List D → List D → Bool
  | [], [] => true
  | x :: xs, y :: ys => D.beq x y && D.beqs xs ys
  | _, _ => false
end
mutual
theorem D.beq_self : ∀ a : D, D.beq a a = true
  | .non => rfl
  | .bl a => by simp [D.beq]
  | .int a => by simp [D.beq]
  | .str a => by simp [D.beq]
  | .tup a => by rw [D.beq]; exact D.beqs_self a
  | .ref a => by simp [D.beq]
  | .fn a => by simp [D.beq]
  | .exn a => by simp [D.beq]
  | .lst a => by rw [D.beq]; exact D.beqs_self a
  | .scr a => by rw [D.beq]; exact D.beqs_self a
theorem D.beqs_self : ∀ a : List D, D.beqs a a = true
  | [] => rfl
  | x :: xs => by rw [D.beqs, D.beq_self x, D.beqs_self xs]; rfl
end
mutual
theorem D.eq_of_beq : ∀ a b : D, D.beq a b = true → a = b
  | .non, b, h => by cases b <;> simp_all [D.beq]
  | .bl a, b, h => by cases b <;> simp_all [D.beq]
  | .int a, b, h => by cases b <;> simp_all [D.beq]
  | .str a, b, h => by cases b <;> simp_all [D.beq]
  | .tup a, b, h => by
    cases b <;> first | (simp [D.beq] at h; done) | (rename_i b; rw [D.beq] at h; rw [D.eqs_of_beqs a b h])
  | .ref a, b, h => by cases b <;> simp_all [D.beq]
  | .fn a, b, h => by cases b <;> simp_all [D.beq]
  | .exn a, b, h => by cases b <;> simp_all [D.beq]
  | .lst a, b, h => by
    cases b <;> first | (simp [D.beq] at h; done) | (rename_i b; rw [D.beq] at h; rw [D.eqs_of_beqs a b h])
  | .scr a, b, h => by
    cases b <;> first | (simp [D.beq] at h; done) | (rename_i b; rw [D.beq] at h; rw [D.eqs_of_beqs a b h])
theorem D.eqs_of_beqs : ∀ a b : List D, D.beqs a b = true → a = b
  | [], b, h => by cases b <;> simp_all [D.beqs]
  | x :: xs, b, h => by
    cases b with
    | nil => simp [D.beqs] at h
    | cons y ys =>
      rw [D.beqs, Bool.and_eq_true] at h
      rw [D.eq_of_beq x y h.1, D.eqs_of_beqs xs ys h.2]
end
instance : DecidableEq D := fun a b => if h : D.beq a b = true then .isTrue (D.eq_of_beq a b h) else .isFalse fun e => h (e ▸ D.beq_self a)
instance : Inhabited D := ⟨.non⟩

/-! Python's == of values that hold no mutable object -/
mutual
def D.eqv : D → D → Bool
  | .non, .non => true
  | .bl a, .bl b => a == b
  | .bl a, .int j => (if a then 1 else 0) == j
  | .int i, .bl b => i == (if b then 1 else 0)
  | .int i, .int j => i == j
  | .str x, .str y => x == y
  | .lst xs, .lst ys => D.eqvs xs ys
  | .tup xs, .tup ys => D.eqvs xs ys
  | _, _ => false
def D.eqvs : List D → List D → Bool
  | [], [] => true
  | x :: xs, y :: ys => D.eqv x y && D.eqvs xs ys
  | _, _ => false
end

/-- a mutable object -/
inductive O where
  | lst (ds : List D) | dct (kvs : List (D × D)) | ins (c : Nat) (fs : List (Str × D))
  deriving DecidableEq
abbrev PH := List O
abbrev Env := List (Option D)

def mapO {α β : Type} (f : α → Option β) : List α → Option (List β)
  | [] => some []
  | x :: xs => match f x with
    | some y => match mapO f xs with
      | some ys => some (y :: ys)
      | none => none
    | none => none

/-- a value with its lists looked through -/
def deref (h : PH) : Nat → D → Option D
  | _, .non => some .non
  | _, .bl b => some (.bl b)
  | _, .int i => some (.int i)
  | _, .str x => if PySem.PyData.strOk x then some (.str x) else none
  | n + 1, .tup ds => match mapO (deref h n) ds with
    | some es => some (.tup es)
    | none => none
  | n + 1, .ref l => match h[l]? with
    | some (.lst ds) => match mapO (deref h n) ds with
      | some es => some (.lst es)
      | none => none
    | _ => none
  | n + 1, .scr ds => match mapO (deref h n) ds with
    | some es => some (.lst es)
    | none => none
  | _, _ => none

inductive Res (α : Type) where
  | ok (a : α) (h : PH) | exc (c : Nat) (h : PH) | stk
@[reducible] def Res.bind {α β : Type} (r : Res α) (f : α → PH → Res β) : Res β :=
  match r with
  | .ok a h => f a h
  | .exc c h => .exc c h
  | .stk => .stk

def mx : Nat := 16777216

inductive Bop where
  | add | sub | mul | fdiv | mod | pow
  deriving DecidableEq
inductive Cop where
  | eq | ne | lt | le | gt | ge | isN | notN | isB (b : Bool) | notB (b : Bool) | ein | nin
  deriving DecidableEq

/-- the items of a list or a tuple -/
def seqOf (h : PH) : D → Option (List D)
  | .tup ds => some ds
  | .scr ds => some ds
  | .ref l => match h[l]? with
    | some (.lst ds) => some ds
    | _ => none
  | _ => none

def lstOf (h : PH) : D → Option (List D)
  | .scr ds => some ds
  | .ref l => match h[l]? with
    | some (.lst ds) => some ds
    | _ => none
  | _ => none

def newL (ds : List D) (h : PH) : Res D := .ok (.ref h.length) (h ++ [.lst ds])

def mulOk (i j : Int) : Bool := (decide (-(2 ^ 64) < i) && decide (i < 2 ^ 64)) || (decide (-(2 ^ 64) < j) && decide (j < 2 ^ 64)) || decide (i.natAbs < 2 ^ 4000 ∧ j.natAbs < 2 ^ 4000)

def binop : Bop → D → D → PH → Res D
  | .add, .int i, .int j, h => .ok (.int (i + j)) h
  | .add, .int i, .bl k, h => .ok (.int (i + (if k then 1 else 0))) h
  | .add, .str x, .str y, h => if x.length + y.length ≤ mx then .ok (.str (x ++ y)) h else .stk
  | .add, .tup xs, .tup ys, h => if xs.length + ys.length ≤ mx then .ok (.tup (xs ++ ys)) h else .stk
  | .add, .ref l, .ref m, h => match h[l]?, h[m]? with
    | some (.lst xs), some (.lst ys) => if xs.length + ys.length ≤ mx then newL (xs ++ ys) h else .stk
    | _, _ => .stk
  | .sub, .int i, .int j, h => .ok (.int (i - j)) h
  | .mul, .int i, .int j, h => if mulOk i j then .ok (.int (i * j)) h else .stk
  | .mul, .ref l, .int k, h => match h[l]? with
    | some (.lst xs) => if -(2 ^ 63) ≤ k ∧ k < 2 ^ 63 ∧ xs.length * k.toNat ≤ mx then newL (List.replicate k.toNat xs).flatten h else .stk
    | _ => .stk
  | .fdiv, .int i, .int j, h => if 0 < j ∧ j.natAbs < 2 ^ 4000 then .ok (.int (i / j)) h else if j < 0 ∧ j.natAbs < 1073741824 then .ok (.int (i.fdiv j)) h else .stk
  | .mod, .int i, .int j, h => if 0 < j then .ok (.int (i % j)) h else if j < 0 then .ok (.int (i.fmod j)) h else .stk
  | .pow, .int i, .int j, h => if 0 ≤ j ∧ j ≤ 1000000 ∧ i.natAbs < 2 ^ 64 then .ok (.int (i ^ j.toNat)) h else .stk
  | _, _, _, _ => .stk

/-- the keys of a dict: what they are up to == -/
def keyOf : D → Option D
  | .bl b => none
  | .int i => some (.int i)
  | .str x => some (.str x)
  | _ => none
def look (k : D) : List (D × D) → Option D
  | [] => none
  | (j, v) :: r => if j = k then some v else look k r
def put (k v : D) (kvs : List (D × D)) : List (D × D) :=
  if (kvs.any fun kv => decide (kv.1 = k)) = true then kvs.map (fun kv => if kv.1 = k then (kv.1, v) else kv) else kvs ++ [(k, v)]

def dctOf (h : PH) : D → Option (List (D × D))
  | .ref l => match h[l]? with
    | some (.dct kvs) => some kvs
    | _ => none
  | _ => none

def memD (h : PH) (a b : D) : Option Bool :=
  match a, b with
  | .str x, .str y => some (!(PySem.Builtin.Str.occurrences y x 0 y.length 1).isEmpty)
  | a, b => match dctOf h b with
    | some kvs => match keyOf a with
      | some k => some (look k kvs).isSome
      | none => none
    | none => match deref h 64 a, deref h 64 b with
      | some x, some (.lst ys) => some (ys.any fun z => D.eqv z x)
      | some x, some (.tup ys) => some (ys.any fun z => D.eqv z x)
      | _, _ => none

def eqD (h : PH) (a b : D) : Option Bool := match deref h 64 a, deref h 64 b with
  | some x, some y => some (D.eqv x y)
  | _, _ => none

def bool? (b : Option Bool) (h : PH) : Res D := match b with
  | some b => .ok (.bl b) h
  | none => .stk

def cmpop : Cop → D → D → PH → Res D
  | .eq, a, b, h => bool? (eqD h a b) h
  | .ne, a, b, h => bool? ((eqD h a b).map not) h
  | .lt, .int i, .int j, h => .ok (.bl (decide (i < j))) h
  | .le, .int i, .int j, h => .ok (.bl (decide (i ≤ j))) h
  | .gt, .int i, .int j, h => .ok (.bl (decide (j < i))) h
  | .ge, .int i, .int j, h => .ok (.bl (decide (j ≤ i))) h
  | .isN, a, _, h => .ok (.bl (decide (a = .non))) h
  | .notN, a, _, h => .ok (.bl (!decide (a = .non))) h
  | .isB c, .bl b, _, h => .ok (.bl (b == c)) h
  | .notB c, .bl b, _, h => .ok (.bl (!(b == c))) h
  | .ein, a, b, h => bool? (memD h a b) h
  | .nin, a, b, h => bool? ((memD h a b).map not) h
  | _, _, _, _ => .stk

/-- truth -/
def tru (h : PH) : D → Option Bool
  | .non => some false
  | .bl b => some b
  | .int i => some (i != 0)
  | .str x => if x.length ≤ mx then some ((x.length : Int) != 0) else none
  | .tup ds => some (!ds.isEmpty)
  | .scr ds => some (!ds.isEmpty)
  | .ref l => match h[l]? with
    | some (.lst ds) => some (!ds.isEmpty)
    | some (.dct kvs) => some (!kvs.isEmpty)
    | _ => none
  | _ => none

/-- an item's place, of any sign -/
def place (n : Nat) (i : Int) : Option Nat := if 0 ≤ i then (if i < n then some i.toNat else none) else if -(n : Int) ≤ i then some (i + n).toNat else none
def item (xs : List D) (i : Int) : Option D := match place xs.length i with
  | some j => xs[j]?
  | none => none
def ixop (a b : D) (h : PH) : Res D :=
  match b with
  | .int i =>
    (match a with
    | .str x => if x.length ≤ mx then (match place x.cps.toList.length i with
      | some j => (match x.cps.toList[j]? with
        | some c => .ok (.str ⟨#[c]⟩) h
        | none => .stk)
      | none => .stk) else .stk
    | a => match seqOf h a with
      | some xs => (match item xs i with
        | some d => .ok d h
        | none => .stk)
      | none => .stk)
  | _ => .stk

/-- the ends of a slice -/
def sIx (n d : Nat) : Option Int → Nat
  | none => d
  | some v => if v < 0 then (v + (n : Int)).toNat else min v.toNat n
def cut (xs : List D) (lo hi : Option Int) : List D := (xs.drop (sIx xs.length 0 lo)).take (sIx xs.length xs.length hi - sIx xs.length 0 lo)
def slop (a : D) (lo hi : Option Int) (h : PH) : Res D := match a with
  | .tup ds => .ok (.tup (cut ds lo hi)) h
  | a => match lstOf h a with
    | some ds => newL (cut ds lo hi) h
    | none => .stk

inductive Ty where
  | int | bool | str | list | tuple | dict
  deriving DecidableEq
def isTy (h : PH) : D → Ty → Option Bool
  | .non, _ => some false
  | .bl _, t => some (t = .bool || t = .int)
  | .int _, t => some (t = .int)
  | .str _, t => some (t = .str)
  | .tup _, t => some (t = .tuple)
  | .scr _, t => some (t = .list)
  | .ref l, t => match h[l]? with
    | some (.lst _) => some (t = .list)
    | some (.dct _) => some (t = .dict)
    | _ => none
  | _, _ => none

/-- built-in functions -/
inductive Bif where
  | len | abs | int | list | tuple | isi (t : Ty) | max2 | min2 | all | any | sum | maxd
  deriving DecidableEq
def bools : List D → Option (List Bool) := mapO fun
  | .bl b => some b
  | _ => none
def intsD : List D → Option (List Int) := mapO fun
  | .int i => some i
  | _ => none
/-- max(xs, default=d) of ints -/
def mxd (d : Int) : List Int → Int
  | [] => d
  | i :: r => r.foldl max i
def bfn : Bif → List D → PH → Res D
  | .len, [.str x], h => if x.length ≤ mx then .ok (.int x.length) h else .stk
  | .len, [a], h => match seqOf h a with
    | some ds => .ok (.int ds.length) h
    | none => match dctOf h a with
      | some kvs => .ok (.int kvs.length) h
      | none => .stk
  | .abs, [.int i], h => .ok (.int (if i < 0 then -i else i)) h
  | .int, [.int i], h => .ok (.int i) h
  | .int, [.bl b], h => .ok (.int (if b then 1 else 0)) h
  | .list, [a], h => match seqOf h a with
    | some ds => newL ds h
    | none => .stk
  | .tuple, [.tup ds], h => .ok (.tup ds) h
  | .tuple, [a], h => match lstOf h a with
    | some ds => .ok (.tup ds) h
    | none => .stk
  | .isi t, [a], h => bool? (isTy h a t) h
  | .max2, [.int i, .int j], h => .ok (.int (if j > i then j else i)) h
  | .min2, [.int i, .int j], h => .ok (.int (if j < i then j else i)) h
  | .all, [a], h => match lstOf h a with
    | some ds => (match bools ds with
      | some bs => .ok (.bl (bs.all id)) h
      | none => .stk)
    | none => .stk
  | .any, [a], h => match lstOf h a with
    | some ds => (match bools ds with
      | some bs => .ok (.bl (bs.any id)) h
      | none => .stk)
    | none => .stk
  | .sum, [a], h => match lstOf h a with
    | some ds => (match intsD ds with
      | some is => .ok (.int is.sum) h
      | none => .stk)
    | none => .stk
  | .maxd, [a, .int d], h => match lstOf h a with
    | some ds => (match intsD ds with
      | some is => .ok (.int (mxd d is)) h
      | none => .stk)
    | none => .stk
  | _, _, _ => .stk

/-- methods of built-in types; what the receiver is -/
inductive Mid where
  | append | extend | pop | popAt | clear | reverse | get1 | get2
  deriving DecidableEq
inductive Rk where
  | l | d | s
  deriving DecidableEq
/-- the model's name of a method -/
def midId : Mid → Rk → Option String
  | .append, .l => some "list.append"
  | .extend, .l => some "list.extend"
  | .pop, .l => some "list.pop"
  | .popAt, .l => some "list.pop"
  | .clear, .l => some "list.clear"
  | .reverse, .l => some "list.reverse"
  | .clear, .d => some "dict.clear"
  | .get1, .d => some "dict.get"
  | .get2, .d => some "dict.get"
  | _, _ => none
def rkOf (h : PH) : D → Option Rk
  | .str _ => some .s
  | .ref l => match h[l]? with
    | some (.lst _) => some .l
    | some (.dct _) => some .d
    | _ => none
  | _ => none
def metL : Mid → Nat → List D → PH → Res D
  | .append, l, [d], h => match h[l]? with
    | some (.lst ds) => if ds.length < mx then .ok .non (h.set l (.lst (ds ++ [d]))) else .stk
    | _ => .stk
  | .extend, l, [.ref m], h => match h[l]?, h[m]? with
    | some (.lst ds), some (.lst es) => if ds.length + es.length ≤ mx then .ok .non (h.set l (.lst (ds ++ es))) else .stk
    | _, _ => .stk
  | .pop, l, [], h => match h[l]? with
    | some (.lst ds) => (match ds[ds.length - 1]? with
      | some d => .ok d (h.set l (.lst ds.dropLast))
      | none => .stk)
    | _ => .stk
  | .popAt, l, [.int i], h => match h[l]? with
    | some (.lst ds) => (match place ds.length i with
      | some j => (match ds[j]? with
        | some d => .ok d (h.set l (.lst (ds.eraseIdx j)))
        | none => .stk)
      | none => .stk)
    | _ => .stk
  | .clear, l, [], h => match h[l]? with
    | some (.lst ds) => .ok .non (h.set l (.lst []))
    | _ => .stk
  | .reverse, l, [], h => match h[l]? with
    | some (.lst ds) => .ok .non (h.set l (.lst ds.reverse))
    | _ => .stk
  | _, _, _, _ => .stk
def metD : Mid → Nat → List D → PH → Res D
  | .clear, l, [], h => match h[l]? with
    | some (.dct _) => .ok .non (h.set l (.dct []))
    | _ => .stk
  | .get1, l, [k], h => match h[l]?, keyOf k with
    | some (.dct kvs), some k => .ok ((look k kvs).getD .non) h
    | _, _ => .stk
  | .get2, l, [k, d], h => match h[l]?, keyOf k with
    | some (.dct kvs), some k => .ok ((look k kvs).getD d) h
    | _, _ => .stk
  | _, _, _, _ => .stk
def met (m : Mid) : Rk → D → List D → PH → Res D
  | .l, .ref l, xs, h => metL m l xs h
  | .d, .ref l, xs, h => metD m l xs h
  | _, _, _, _ => .stk

mutual
inductive Ex where
  | stk | var (i : Nat) | cst (d : D)
  | bin (o : Bop) (a b : Ex) | neg (a : Ex)
  | cmp (o : Cop) (a b : Ex) | chain (o p : Cop) (a b c : Ex)
  | and (a b : Ex) | or (a b : Ex) | not (a : Ex) | ite (c a b : Ex)
  | tup (es : Exs) | lst (es : Exs) | dct (ks vs : Exs)
  | ix (a b : Ex) | sl (a : Ex) (lo hi : Opt)
  | call (f : Nat) (es : Exs) (ds : List D)
  | cdct (kvs : List (D × D)) (e : Ex)
  | bfn (b : Bif) (es : Exs)
  | met (m : Mid) (o : Ex) (es : Exs)
  | fld (o : Ex) (f : Str)
  | umt (o : Ex) (m : Str) (es : Exs)
  | mk (c : Nat) (es : Exs)
  | lc (e : Ex) (t : Tg) (i : Iw) (cs : Exs) (own : List Nat)
inductive Exs where
  | nil | cons (e : Ex) (es : Exs)
inductive Opt where
  | no | yes (e : Ex)
inductive Tg where
  | stk | name (i : Nat) | tup (ts : Tgs) | sub (o i : Ex)
inductive Tgs where
  | nil | cons (t : Tg) (ts : Tgs)
inductive Iw where
  | stk | seq (e : Ex) | rng1 (e : Ex) | rng2 (e f : Ex) | enum (e : Ex) | zip (e f : Ex)
end

/-- the defs' meaning at one level less; C: a class's __init__ and methods -/
structure Fns where
  call : Nat → List D → PH → Res D
  /-- the number of the __init__ of a class -/
  ini : Nat → Option Nat
  /-- the def that is a class's method -/
  mth : Nat → Str → Option Nat
  /-- a plain attribute of a class's instances -/
  fld : Nat → Str → Bool

def putF (f : Str) (v : D) : List (Str × D) → List (Str × D)
  | [] => [(f, v)]
  | (g, u) :: r => if g = f then (g, v) :: r else (g, u) :: putF f v r

/-- o[i] = v -/
def setop (o i v : D) (h : PH) : Res Unit := match o with
  | .ref l => (match h[l]? with
    | some (.lst ds) => (match i with
      | .int i => (match place ds.length i with
        | some j => .ok () (h.set l (.lst (ds.set j v)))
        | none => .stk)
      | _ => .stk)
    | some (.dct kvs) => (match keyOf i with
      | some k => if kvs.length < mx then .ok () (h.set l (.dct (put k v kvs))) else .stk
      | none => .stk)
    | _ => .stk)
  | _ => .stk
def fldop (F : Fns) (o : D) (f : Str) (h : PH) : Res D := match o with
  | .ref l => (match h[l]? with
    | some (.ins c fs) => (match F.fld c f, fs.lookup f with
      | true, some d => .ok d h
      | _, _ => .stk)
    | _ => .stk)
  | _ => .stk
def sfldop (F : Fns) (o : D) (f : Str) (v : D) (h : PH) : Res Unit := match o with
  | .ref l => (match h[l]? with
    | some (.ins c fs) => if fs.length < 1000 ∧ F.fld c f = true then .ok () (h.set l (.ins c (putF f v fs))) else .stk
    | _ => .stk)
  | _ => .stk

/-- what a loop walks: its items; the places of the heap that the body must leave -/
structure Walk where
  items : List D
  keep : List Nat
def locs : D → List Nat
  | .ref l => [l]
  | _ => []
def kept (h h' : PH) (ls : List Nat) : Bool := ls.all fun l => decide (h[l]? = h'[l]?)

def seqW (h : PH) (a : D) : Res Walk := match seqOf h a with
  | some ds => .ok ⟨ds, locs a⟩ h
  | none => .stk
def rngD (lo : Int) (n : Nat) : List D := (List.range n).map fun (k : Nat) => .int (lo + (k : Int))
def rngW (lo hi : Int) (h : PH) : Res Walk := if -(2 ^ 62) ≤ lo ∧ lo < 2 ^ 62 ∧ -(2 ^ 62) ≤ hi ∧ hi < 2 ^ 62 then .ok ⟨rngD lo (hi - lo).toNat, []⟩ h else .stk
def enumD (k : Nat) : List D → List D
  | [] => []
  | d :: ds => .tup [.int k, d] :: enumD (k + 1) ds
def zipD : List D → List D → List D
  | a :: as, b :: bs => .tup [a, b] :: zipD as bs
  | _, _ => []

/-- what raises is not served there -/
def Res.nx {α : Type} : Res α → Res α
  | .exc _ _ => .stk
  | r => r
/-- forgetting the slots of a comprehension's own names -/
def wipeE (ρ : Env) : List Nat → Env
  | [] => ρ
  | i :: r => (wipeE ρ r).set i none

/-- a comprehension's loop -/
def lcS (turn : D → PH → Res (Option D)) (g : PH → Bool) : List D → List D → PH → Res (List D)
  | [], acc, h => .ok acc h
  | x :: xs, acc, h => match turn x h with
    | .ok (some d) h' => if g h' ∧ acc.length < mx then lcS turn g xs (acc ++ [d]) h' else .stk
    | .ok none h' => if g h' then lcS turn g xs acc h' else .stk
    | .exc _ _ => .stk
    | .stk => .stk

section
variable (F : Fns)
mutual
def evE : Ex → Env → PH → Res D
  | .stk, _, _ => .stk
  | .var i, ρ, h => match ρ[i]? with
    | some (some d) => .ok d h
    | _ => .stk
  | .cst d, _, h => .ok d h
  | .bin o a b, ρ, h => (evE a ρ h).bind fun x h => (evE b ρ h).bind fun y h => binop o x y h
  | .neg a, ρ, h => (evE a ρ h).bind fun x h => match x with
    | .int i => .ok (.int (-i)) h
    | _ => .stk
  | .cmp o a b, ρ, h => (evE a ρ h).bind fun x h => (evE b ρ h).bind fun y h => cmpop o x y h
  | .chain o p a b c, ρ, h => (evE a ρ h).bind fun x h => (evE b ρ h).bind fun y h => (cmpop o x y h).bind fun r h => match r with
    | .bl true => (evE c ρ h).bind fun z h => cmpop p y z h
    | .bl false => .ok (.bl false) h
    | _ => .stk
  | .and a b, ρ, h => (evE a ρ h).bind fun x h => match tru h x with
    | some true => evE b ρ h
    | some false => .ok x h
    | none => .stk
  | .or a b, ρ, h => (evE a ρ h).bind fun x h => match tru h x with
    | some true => .ok x h
    | some false => evE b ρ h
    | none => .stk
  | .not a, ρ, h => (evE a ρ h).bind fun x h => match tru h x with
    | some b => .ok (.bl (!b)) h
    | none => .stk
  | .ite c a b, ρ, h => (evE c ρ h).bind fun x h => match tru h x with
    | some true => evE a ρ h
    | some false => evE b ρ h
    | none => .stk
  | .tup es, ρ, h => (evEs es ρ h).bind fun xs h => if xs.length ≤ mx then .ok (.tup xs) h else .stk
  | .lst es, ρ, h => (evEs es ρ h).bind fun xs h => if xs.length ≤ mx then newL xs h else .stk
  | .dct .nil .nil, _, h => .ok (.ref h.length) (h ++ [.dct []])
  | .dct _ _, _, _ => .stk
  | .ix a b, ρ, h => (evE a ρ h).bind fun x h => (evE b ρ h).bind fun y h => ixop x y h
  | .sl a lo hi, ρ, h => (evE a ρ h).bind fun x h => (evO lo ρ h).bind fun l h => (evO hi ρ h).bind fun u h => slop x l u h
  | .call f es ds, ρ, h => (evEs es ρ h).bind fun xs h => F.call f (xs ++ ds) h
  | .cdct kvs e, ρ, h => (evE e ρ h).bind fun x h => match keyOf x with
    | some k => .ok ((look k kvs).getD .non) h
    | none => .stk
  | .bfn b es, ρ, h => (evEs es ρ h).bind fun xs h => bfn b xs h
  | .met m o es, ρ, h => (evE o ρ h).bind fun x h => match rkOf h x with
    | some k => if (midId m k).isSome = true then (evEs es ρ h).bind fun xs h => met m k x xs h else .stk
    | none => .stk
  | .fld o f, ρ, h => (evE o ρ h).bind fun x h => fldop F x f h
  | .umt o m es, ρ, h => (evE o ρ h).bind fun x h => match x with
    | .ref l => (match h[l]? with
      | some (.ins c fs) => (match F.mth c m, fs.lookup m with
        | some f, none => (evEs es ρ h).bind fun xs h => F.call f (x :: xs) h
        | _, _ => .stk)
      | _ => .stk)
    | _ => .stk
  | .mk c es, ρ, h => (evEs es ρ h).bind fun xs h => match F.ini c with
    | some f => (F.call f (.ref h.length :: xs) (h ++ [.ins c []])).bind fun r h' => if r = .non then .ok (.ref h.length) h' else .stk
    | none => .stk
  | .lc e t i cs own, ρ, h => (evI i ρ h).bind fun w h =>
      (lcS (fun x h => (evT t x (wipeE ρ own) h).bind fun ρ' h => (evC cs ρ' h).bind fun b h => if b then (evE e ρ' h).bind fun d h => .ok (some d) h else .ok none h) (fun h' => kept h h' w.keep) w.items [] h).bind fun ds h => newL ds h
def evO : Opt → Env → PH → Res (Option Int)
  | .no, _, h => .ok none h
  | .yes e, ρ, h => (evE e ρ h).bind fun x h => match x with
    | .int i => .ok (some i) h
    | _ => .stk
def evEs : Exs → Env → PH → Res (List D)
  | .nil, _, h => .ok [] h
  | .cons e es, ρ, h => (evE e ρ h).bind fun x h => (evEs es ρ h).bind fun xs h => .ok (x :: xs) h
/-- the tests of a comprehension: none or one -/
def evC : Exs → Env → PH → Res Bool
  | .nil, _, h => .ok true h
  | .cons e .nil, ρ, h => (evE e ρ h).bind fun x h => match tru h x with
    | some b => .ok b h
    | none => .stk
  | _, _, _ => .stk
def evT : Tg → D → Env → PH → Res Env
  | .stk, _, _, _ => .stk
  | .name i, d, ρ, h => .ok (ρ.set i (some d)) h
  | .tup ts, d, ρ, h => match seqOf h d with
    | some ds => evTs ts ds ρ h
    | none => .stk
  | .sub o i, d, ρ, h => (evE o ρ h).nx.bind fun x h => (evE i ρ h).nx.bind fun y h => (setop x y d h).bind fun _ h => .ok ρ h
def evTs : Tgs → List D → Env → PH → Res Env
  | .nil, [], ρ, h => .ok ρ h
  | .cons t ts, d :: ds, ρ, h => (evT t d ρ h).bind fun ρ h => evTs ts ds ρ h
  | _, _, _, _ => .stk
def evI : Iw → Env → PH → Res Walk
  | .stk, _, _ => .stk
  | .seq e, ρ, h => (evE e ρ h).bind fun x h => seqW h x
  | .rng1 e, ρ, h => (evE e ρ h).bind fun x h => match x with
    | .int j => rngW 0 j h
    | _ => .stk
  | .rng2 e f, ρ, h => (evE e ρ h).bind fun x h => (evE f ρ h).bind fun y h => match x, y with
    | .int i, .int j => rngW i j h
    | _, _ => .stk
  | .enum e, ρ, h => (evE e ρ h).bind fun x h => match lstOf h x with
    | some ds => .ok ⟨enumD 0 ds, locs x⟩ h
    | none => .stk
  | .zip e f, ρ, h => (evE e ρ h).bind fun x h => (evE f ρ h).bind fun y h => match lstOf h x, lstOf h y with
    | some ds, some es => .ok ⟨zipD ds es, locs x ++ locs y⟩ h
    | _, _ => .stk
end
/-- a test -/
def evB (e : Ex) (ρ : Env) (h : PH) : Res Bool := (evE F e ρ h).bind fun x h => match tru h x with
  | some b => .ok b h
  | none => .stk
end

/-! ### statements -/
mutual
inductive St where
  | stk | pass | asg (t : Tg) (e : Ex) | sfd (o : Ex) (f : Str) (e : Ex) | par (i j : Nat) (a b : Ex) | aug (i : Nat) (o : Bop) (e : Ex)
  | ex (e : Ex) | ret (e : Ex) | retN | ife (c : Ex) (a b : Ss) | whl (c : Ex) (b : Ss) | for_ (t : Tg) (i : Iw) (b : Ss) | brk | cnt
inductive Ss where
  | nil | cons (s : St) (r : Ss)
end
inductive SRes where
  | nx (ρ : Env) (h : PH) | rt (d : D) (h : PH) | bk (ρ : Env) (h : PH) | ct (ρ : Env) (h : PH) | ex (c : Nat) (ρ : Env) (h : PH) | stk
/-- an expression's answer, then f; ρ: the slots where it is raised -/
def Res.sb {α : Type} (ρ : Env) (r : Res α) (f : α → PH → SRes) : SRes := match r with
  | .ok a h => f a h
  | .exc c h => .ex c ρ h
  | .stk => .stk
def SRes.sq (r : SRes) (f : Env → PH → SRes) : SRes := match r with
  | .nx ρ h => f ρ h
  | r => r
def forS (turn : D → Env → PH → SRes) (g : PH → Bool) : List D → Env → PH → SRes
  | [], ρ, h => .nx ρ h
  | x :: xs, ρ, h => match turn x ρ h with
    | .nx ρ' h' => if g h' then forS turn g xs ρ' h' else .stk
    | .ct ρ' h' => if g h' then forS turn g xs ρ' h' else .stk
    | .bk ρ' h' => .nx ρ' h'
    | r => r
def whlS (c : Env → PH → Res Bool) (b : Env → PH → SRes) : Nat → Env → PH → SRes
  | 0, _, _ => .stk
  | n + 1, ρ, h => (c ρ h).sb ρ fun k h => if k = true then (match b ρ h with
      | .nx ρ' h' => whlS c b n ρ' h'
      | .ct ρ' h' => whlS c b n ρ' h'
      | .bk ρ' h' => .nx ρ' h'
      | r => r) else .nx ρ h
/-- the most turns of a while -/
def wlim : Nat := 1000000
def augop : Bop → D → D → Option D
  | .add, .int i, .int j => some (.int (i + j))
  | .sub, .int i, .int j => some (.int (i - j))
  | .add, .str x, .str y => if x.length + y.length ≤ mx then some (.str (x ++ y)) else none
  | _, _, _ => none
section
variable (F : Fns)
mutual
def evS : St → Env → PH → SRes
  | .stk, _, _ => .stk
  | .pass, ρ, h => .nx ρ h
  | .asg t e, ρ, h => (evE F e ρ h).sb ρ fun d h => (evT F t d ρ h).nx.sb ρ fun ρ h => .nx ρ h
  | .sfd o f e, ρ, h => (evE F e ρ h).sb ρ fun d h => (evE F o ρ h).sb ρ fun x h => (sfldop F x f d h).sb ρ fun _ h => .nx ρ h
  | .par i j a b, ρ, h => (evE F a ρ h).sb ρ fun x h => (evE F b ρ h).sb ρ fun y h => .nx ((ρ.set i (some x)).set j (some y)) h
  | .aug i o e, ρ, h => match ρ[i]? with
    | some (some x) => (evE F e ρ h).sb ρ fun y h => match augop o x y with
      | some z => .nx (ρ.set i (some z)) h
      | none => .stk
    | _ => .stk
  | .ex e, ρ, h => (evE F e ρ h).sb ρ fun _ h => .nx ρ h
  | .ret e, ρ, h => (evE F e ρ h).sb ρ fun d h => .rt d h
  | .retN, _, h => .rt .non h
  | .ife c a b, ρ, h => (evB F c ρ h).sb ρ fun k h => if k = true then evSs a ρ h else evSs b ρ h
  | .whl c b, ρ, h => whlS (evB F c) (evSs b) wlim ρ h
  | .for_ t i b, ρ, h => (evI F i ρ h).sb ρ fun w h => forS (fun x ρ h' => (evT F t x ρ h').nx.sb ρ fun ρ h' => evSs b ρ h') (fun h' => kept h h' w.keep) w.items ρ h
  | .brk, ρ, h => .bk ρ h
  | .cnt, ρ, h => .ct ρ h
def evSs : Ss → Env → PH → SRes
  | .nil, ρ, h => .nx ρ h
  | .cons s r, ρ, h => (evS s ρ h).sq (evSs r)
end
end

/-- a def: how many parameters, how many slots, its body -/
structure Fd where
  np : Nat
  nl : Nat
  body : Ss
def startE (nl : Nat) (args : List D) : Env := args.map some ++ List.replicate (nl - args.length) none
def SRes.fin : SRes → Res D
  | .nx _ h => .ok .non h
  | .rt d h => .ok d h
  | .ex c _ h => .exc c h
  | _ => .stk
/-- the text's defs; their meaning to so many levels -/
structure Tb where
  fds : List Fd
  ini : Nat → Option Nat
  mth : Nat → Str → Option Nat
  fld : Nat → Str → Bool
def Tb.fns (T : Tb) : Nat → Fns
  | 0 => ⟨fun _ _ _ => .stk, T.ini, T.mth, T.fld⟩
  | n + 1 => ⟨fun k args h => match T.fds[k]? with
      | some fd => if args.length = fd.np then (evSs (T.fns n) fd.body (startE fd.nl args) h).fin else .stk
      | none => .stk, T.ini, T.mth, T.fld⟩
end Mp

set_option Elab.async false
set_option linter.all false
set_option maxRecDepth 100000
/-! W1: weakest preconditions over the interpreter: rewriting rules and the rules of loops. -/
namespace Mp
open PySem (Str)
def Res.W {α : Type} (r : Res α) (P : α → PH → Prop) (X : Nat → PH → Prop) : Prop := match r with
  | .ok a h => P a h
  | .exc c h => X c h
  | .stk => False
def SRes.W (r : SRes) (N : Env → PH → Prop) (R : D → PH → Prop) (B C : Env → PH → Prop) (X : Nat → Env → PH → Prop) : Prop := match r with
  | .nx ρ h => N ρ h
  | .rt d h => R d h
  | .bk ρ h => B ρ h
  | .ct ρ h => C ρ h
  | .ex c ρ h => X c ρ h
  | .stk => False
end Mp
namespace Mp.Wp
open PySem (Str)
section
variable {α β : Type} {P : α → PH → Prop} {PB : β → PH → Prop} {X : Nat → PH → Prop} {N B C : Env → PH → Prop} {R : D → PH → Prop} {XS : Nat → Env → PH → Prop} {h : PH} {ρ : Env}
theorem W_ok {a : α} : (Res.ok a h).W P X = P a h := rfl
theorem W_exc {c : Nat} : (Res.exc c h : Res α).W P X = X c h := rfl
theorem W_stk : (Res.stk : Res α).W P X = False := rfl
theorem W_bind {r : Res α} {f : α → PH → Res β} : (r.bind f).W PB X = r.W (fun a h => (f a h).W PB X) X := by cases r <;> rfl
theorem W_mono {r : Res α} {P' : α → PH → Prop} {X' : Nat → PH → Prop} (w : r.W P X) (hp : ∀ a h, P a h → P' a h) (hx : ∀ c h, X c h → X' c h) : r.W P' X' := by
  cases r with
  | ok a h => exact hp _ _ w
  | exc c h => exact hx _ _ w
  | stk => exact w
theorem W_sb {r : Res α} {f : α → PH → SRes} : (r.sb ρ f).W N R B C XS = r.W (fun a h => (f a h).W N R B C XS) (fun c h => XS c ρ h) := by cases r <;> rfl
theorem W_sq {r : SRes} {f : Env → PH → SRes} : (r.sq f).W N R B C XS = r.W (fun ρ h => (f ρ h).W N R B C XS) R B C XS := by cases r <;> rfl
theorem W_fin {r : SRes} {R : D → PH → Prop} : r.fin.W R X = r.W (fun _ h => R .non h) R (fun _ _ => False) (fun _ _ => False) (fun c _ h => X c h) := by cases r <;> rfl
theorem W_nx' {r : Res α} : r.nx.W P X = r.W P (fun _ _ => False) := by cases r <;> rfl
theorem W_nx : (SRes.nx ρ h).W N R B C XS = N ρ h := rfl
theorem W_rt {d : D} : (SRes.rt d h).W N R B C XS = R d h := rfl
theorem W_bk : (SRes.bk ρ h).W N R B C XS = B ρ h := rfl
theorem W_ct : (SRes.ct ρ h).W N R B C XS = C ρ h := rfl
theorem W_ex {c : Nat} : (SRes.ex c ρ h).W N R B C XS = XS c ρ h := rfl
theorem W_sstk : SRes.stk.W N R B C XS = False := rfl
theorem SW_mono {r : SRes} {N' B' C' : Env → PH → Prop} {R' : D → PH → Prop} {XS' : Nat → Env → PH → Prop} (w : r.W N R B C XS) (hn : ∀ ρ h, N ρ h → N' ρ h) (hr : ∀ d h, R d h → R' d h) (hb : ∀ ρ h, B ρ h → B' ρ h) (hc : ∀ ρ h, C ρ h → C' ρ h) (hx : ∀ c ρ h, XS c ρ h → XS' c ρ h) : r.W N' R' B' C' XS' := by
  cases r with
  | nx ρ h => exact hn _ _ w
  | rt d h => exact hr _ _ w
  | bk ρ h => exact hb _ _ w
  | ct ρ h => exact hc _ _ w
  | ex c ρ h => exact hx _ _ _ w
  | stk => exact w
end
section
variable {F : Fns} {P : D → PH → Prop} {X : Nat → PH → Prop} {N B C : Env → PH → Prop} {R : D → PH → Prop} {XS : Nat → Env → PH → Prop} {h : PH} {ρ : Env} {e a b c o : Ex} {es : Exs}
theorem e_cst {d : D} : (evE F (.cst d) ρ h).W P X = P d h := rfl
theorem e_var {i : Nat} : (evE F (.var i) ρ h).W P X = (match ρ[i]? with | some (some d) => P d h | _ => False) := by
  show (match ρ[i]? with | some (some d) => Res.ok d h | _ => .stk).W P X = _
  split <;> rfl
theorem e_bin {o : Bop} : (evE F (.bin o a b) ρ h).W P X = (evE F a ρ h).W (fun x h => (evE F b ρ h).W (fun y h => (binop o x y h).W P X) X) X := by
  show (Res.bind _ _).W P X = _
  simp only [W_bind]
theorem e_neg : (evE F (.neg a) ρ h).W P X = (evE F a ρ h).W (fun x h => match x with | .int i => P (.int (-i)) h | _ => False) X := by
  show (Res.bind _ _).W P X = _
  rw [W_bind]; congr; funext x h; cases x <;> rfl
theorem e_cmp {o : Cop} : (evE F (.cmp o a b) ρ h).W P X = (evE F a ρ h).W (fun x h => (evE F b ρ h).W (fun y h => (cmpop o x y h).W P X) X) X := by
  show (Res.bind _ _).W P X = _
  simp only [W_bind]
def chainW (F : Fns) (c : Ex) (p : Cop) (y : D) (ρ : Env) (P : D → PH → Prop) (X : Nat → PH → Prop) (r : D) (h : PH) : Prop := match r with
  | .bl true => (evE F c ρ h).W (fun z h => (cmpop p y z h).W P X) X
  | .bl false => P (.bl false) h
  | _ => False
theorem e_chain {o p : Cop} : (evE F (.chain o p a b c) ρ h).W P X = (evE F a ρ h).W (fun x h => (evE F b ρ h).W (fun y h => (cmpop o x y h).W (fun r h => chainW F c p y ρ P X r h) X) X) X := by
  show (Res.bind _ _).W P X = _
  simp only [W_bind]
  congr; funext x h; congr; funext y h; congr; funext r h
  cases r with
  | bl b => cases b with
    | true => exact W_bind
    | false => rfl
  | _ => rfl
theorem chain_bl {p : Cop} {y : D} {k : Bool} : chainW F c p y ρ P X (.bl k) h = if k = true then (evE F c ρ h).W (fun z h => (cmpop p y z h).W P X) X else P (.bl false) h := by cases k <;> simp [chainW]
/-- by truth -/
def byT (h : PH) (x : D) (t f : Prop) : Prop := match tru h x with
  | some true => t
  | some false => f
  | none => False
theorem byT_bl {k : Bool} {t f : Prop} : byT h (.bl k) t f = if k = true then t else f := by cases k <;> simp [byT, tru]
theorem e_and : (evE F (.and a b) ρ h).W P X = (evE F a ρ h).W (fun x h => byT h x ((evE F b ρ h).W P X) (P x h)) X := by
  show (Res.bind _ _).W P X = _
  rw [W_bind]; congr; funext x h; unfold byT
  split <;> simp [*, W_ok, W_stk]
theorem e_or : (evE F (.or a b) ρ h).W P X = (evE F a ρ h).W (fun x h => byT h x (P x h) ((evE F b ρ h).W P X)) X := by
  show (Res.bind _ _).W P X = _
  rw [W_bind]; congr; funext x h; unfold byT
  split <;> simp [*, W_ok, W_stk]
theorem e_not : (evE F (.not a) ρ h).W P X = (evE F a ρ h).W (fun x h => byT h x (P (.bl false) h) (P (.bl true) h)) X := by
  show (Res.bind _ _).W P X = _
  rw [W_bind]; congr; funext x h; unfold byT
  split
  · rename_i b e; cases b <;> simp [e, W_ok]
  · rename_i e; simp [e, W_stk]
theorem e_ite : (evE F (.ite c a b) ρ h).W P X = (evE F c ρ h).W (fun x h => byT h x ((evE F a ρ h).W P X) ((evE F b ρ h).W P X)) X := by
  show (Res.bind _ _).W P X = _
  rw [W_bind]; congr; funext x h; unfold byT
  split <;> simp [*, W_stk]
theorem e_tup : (evE F (.tup es) ρ h).W P X = (evEs F es ρ h).W (fun xs h => xs.length ≤ mx ∧ P (.tup xs) h) X := by
  show (Res.bind _ _).W P X = _
  rw [W_bind]; congr; funext xs h; split <;> simp [*, W_ok, W_stk]
theorem e_lst : (evE F (.lst es) ρ h).W P X = (evEs F es ρ h).W (fun xs h => xs.length ≤ mx ∧ P (.ref h.length) (h ++ [.lst xs])) X := by
  show (Res.bind _ _).W P X = _
  rw [W_bind]; congr; funext xs h; split <;> simp [*, W_ok, W_stk, newL]
theorem e_dct0 : (evE F (.dct .nil .nil) ρ h).W P X = P (.ref h.length) (h ++ [.dct []]) := rfl
theorem e_ix : (evE F (.ix a b) ρ h).W P X = (evE F a ρ h).W (fun x h => (evE F b ρ h).W (fun y h => (ixop x y h).W P X) X) X := by
  show (Res.bind _ _).W P X = _
  simp only [W_bind]
theorem e_sl {lo hi : Opt} : (evE F (.sl a lo hi) ρ h).W P X = (evE F a ρ h).W (fun x h => (evO F lo ρ h).W (fun l h => (evO F hi ρ h).W (fun u h => (slop x l u h).W P X) X) X) X := by
  show (Res.bind _ _).W P X = _
  simp only [W_bind]
theorem o_no {P : Option Int → PH → Prop} : (evO F .no ρ h).W P X = P none h := rfl
theorem o_yes {P : Option Int → PH → Prop} : (evO F (.yes e) ρ h).W P X = (evE F e ρ h).W (fun x h => match x with | .int i => P (some i) h | _ => False) X := by
  show (Res.bind _ _).W P X = _
  rw [W_bind]; congr; funext x h; cases x <;> rfl
theorem es_nil {P : List D → PH → Prop} : (evEs F .nil ρ h).W P X = P [] h := rfl
theorem es_cons {P : List D → PH → Prop} : (evEs F (.cons e es) ρ h).W P X = (evE F e ρ h).W (fun x h => (evEs F es ρ h).W (fun xs h => P (x :: xs) h) X) X := by
  show (Res.bind _ _).W P X = _
  rw [W_bind]; congr; funext x h
  show (Res.bind _ _).W P X = _
  rw [W_bind]; rfl
theorem e_call {f : Nat} {ds : List D} : (evE F (.call f es ds) ρ h).W P X = (evEs F es ρ h).W (fun xs h => (F.call f (xs ++ ds) h).W P X) X := by
  show (Res.bind _ _).W P X = _
  rw [W_bind]
theorem e_bfn {f : Bif} : (evE F (.bfn f es) ρ h).W P X = (evEs F es ρ h).W (fun xs h => (bfn f xs h).W P X) X := by
  show (Res.bind _ _).W P X = _
  rw [W_bind]
def metW (F : Fns) (m : Mid) (es : Exs) (ρ : Env) (P : D → PH → Prop) (X : Nat → PH → Prop) (x : D) (h : PH) : Prop := match rkOf h x with
  | some k => (midId m k).isSome = true ∧ (evEs F es ρ h).W (fun xs h => (met m k x xs h).W P X) X
  | none => False
theorem e_met {m : Mid} : (evE F (.met m o es) ρ h).W P X = (evE F o ρ h).W (fun x h => metW F m es ρ P X x h) X := by
  show (Res.bind _ _).W P X = _
  rw [W_bind]; congr; funext x h; unfold metW
  show Res.W (match rkOf h x with
    | some k => if (midId m k).isSome = true then (evEs F es ρ h).bind fun xs h => met m k x xs h else .stk
    | none => .stk) P X = _
  cases rkOf h x with
  | none => rfl
  | some k =>
    show Res.W (if (midId m k).isSome = true then (evEs F es ρ h).bind fun xs h => met m k x xs h else .stk) P X = ((midId m k).isSome = true ∧ _)
    split
    · rename_i e2; simp [e2, W_bind]
    · rename_i e2; simp [e2, W_stk]
theorem i_seq {P : Walk → PH → Prop} : (evI F (.seq e) ρ h).W P X = (evE F e ρ h).W (fun x h => (seqW h x).W P X) X := by
  show (Res.bind _ _).W P X = _
  rw [W_bind]
theorem i_enum {P : Walk → PH → Prop} : (evI F (.enum e) ρ h).W P X = (evE F e ρ h).W (fun x h => match lstOf h x with | some ds => P ⟨enumD 0 ds, locs x⟩ h | none => False) X := by
  show (Res.bind _ _).W P X = _
  rw [W_bind]; congr; funext x h; split <;> simp [*, W_ok, W_stk]
theorem i_zip {P : Walk → PH → Prop} : (evI F (.zip e a) ρ h).W P X = (evE F e ρ h).W (fun x h => (evE F a ρ h).W (fun y h => match lstOf h x, lstOf h y with | some ds, some es => P ⟨zipD ds es, locs x ++ locs y⟩ h | _, _ => False) X) X := by
  show (Res.bind _ _).W P X = _
  simp only [W_bind]; congr; funext x h; congr; funext y h; split <;> simp [*, W_ok, W_stk]
theorem i_rng1 {P : Walk → PH → Prop} : (evI F (.rng1 e) ρ h).W P X = (evE F e ρ h).W (fun x h => match x with | .int j => (rngW 0 j h).W P X | _ => False) X := by
  show (Res.bind _ _).W P X = _
  rw [W_bind]; congr; funext x h; cases x <;> rfl
theorem i_rng2 {P : Walk → PH → Prop} : (evI F (.rng2 e a) ρ h).W P X = (evE F e ρ h).W (fun x h => (evE F a ρ h).W (fun y h => match x, y with | .int i, .int j => (rngW i j h).W P X | _, _ => False) X) X := by
  show (Res.bind _ _).W P X = _
  simp only [W_bind]; congr; funext x h; congr; funext y h; cases x <;> cases y <;> rfl
theorem rngW_ok {P : Walk → PH → Prop} {lo hi : Int} (h1 : -(2 ^ 62) ≤ lo) (h2 : lo < 2 ^ 62) (h3 : -(2 ^ 62) ≤ hi) (h4 : hi < 2 ^ 62) : (rngW lo hi h).W P X = P ⟨rngD lo (hi - lo).toNat, []⟩ h := by
  unfold rngW; rw [if_pos ⟨h1, h2, h3, h4⟩]; rfl
theorem t_name {P : Env → PH → Prop} {i : Nat} {d : D} : (evT F (.name i) d ρ h).W P X = P (ρ.set i (some d)) h := rfl
theorem t_tup {P : Env → PH → Prop} {ts : Tgs} {d : D} : (evT F (.tup ts) d ρ h).W P X = (match seqOf h d with | some ds => (evTs F ts ds ρ h).W P X | none => False) := by
  show (match seqOf h d with | some ds => evTs F ts ds ρ h | none => .stk).W P X = _
  split <;> rfl
theorem t_sub {P : Env → PH → Prop} {d : D} : (evT F (.sub a b) d ρ h).W P X = (evE F a ρ h).W (fun x h => (evE F b ρ h).W (fun y h => (setop x y d h).W (fun _ h => P ρ h) X) (fun _ _ => False)) (fun _ _ => False) := by
  show (Res.bind _ _).W P X = _
  rw [W_bind, W_nx']
  cases evE F a ρ h with
  | exc c h => rfl
  | stk => rfl
  | ok x h =>
    show (Res.bind _ _).W P X = _
    rw [W_bind, W_nx']
    show (evE F b ρ h).W _ _ = (evE F b ρ h).W _ _
    cases evE F b ρ h with
    | exc c h => rfl
    | stk => rfl
    | ok y h =>
      show (Res.bind _ _).W P X = _
      rw [W_bind]; rfl
theorem ts_nil {P : Env → PH → Prop} : (evTs F .nil [] ρ h).W P X = P ρ h := rfl
theorem ts_cons {P : Env → PH → Prop} {t : Tg} {ts : Tgs} {d : D} {ds : List D} : (evTs F (.cons t ts) (d :: ds) ρ h).W P X = (evT F t d ρ h).W (fun ρ h => (evTs F ts ds ρ h).W P X) X := by
  show (Res.bind _ _).W P X = _
  rw [W_bind]
theorem B_ {P : Bool → PH → Prop} : (evB F e ρ h).W P X = (evE F e ρ h).W (fun x h => byT h x (P true h) (P false h)) X := by
  show (Res.bind _ _).W P X = _
  rw [W_bind]; congr; funext x h; unfold byT
  split
  · rename_i b e; cases b <;> simp [e, W_ok]
  · rename_i e; simp [e, W_stk]
theorem c_nil {P : Bool → PH → Prop} : (evC F .nil ρ h).W P X = P true h := rfl
theorem c_one {P : Bool → PH → Prop} : (evC F (.cons e .nil) ρ h).W P X = (evE F e ρ h).W (fun x h => byT h x (P true h) (P false h)) X := by
  show (Res.bind _ _).W P X = _
  rw [W_bind]; congr; funext x h; unfold byT
  split
  · rename_i b e; cases b <;> simp [e, W_ok]
  · rename_i e; simp [e, W_stk]
/-! statements -/
theorem s_nil : (evSs F .nil ρ h).W N R B C XS = N ρ h := rfl
theorem s_cons {s : St} {r : Ss} : (evSs F (.cons s r) ρ h).W N R B C XS = (evS F s ρ h).W (fun ρ h => (evSs F r ρ h).W N R B C XS) R B C XS := by
  show (SRes.sq _ _).W N R B C XS = _
  rw [W_sq]
theorem s_pass : (evS F .pass ρ h).W N R B C XS = N ρ h := rfl
theorem s_brk : (evS F .brk ρ h).W N R B C XS = B ρ h := rfl
theorem s_cnt : (evS F .cnt ρ h).W N R B C XS = C ρ h := rfl
theorem s_retN : (evS F .retN ρ h).W N R B C XS = R .non h := rfl
theorem s_asgn {i : Nat} : (evS F (.asg (.name i) e) ρ h).W N R B C XS = (evE F e ρ h).W (fun d h => N (ρ.set i (some d)) h) (fun c h => XS c ρ h) := by
  show (Res.sb _ _ _).W N R B C XS = _
  rw [W_sb]; rfl
theorem s_asg {t : Tg} : (evS F (.asg t e) ρ h).W N R B C XS = (evE F e ρ h).W (fun d h => (evT F t d ρ h).W N (fun _ _ => False)) (fun c h => XS c ρ h) := by
  show (Res.sb _ _ _).W N R B C XS = _
  rw [W_sb]; congr; funext d h
  rw [W_sb, W_nx']; rfl
theorem s_ex : (evS F (.ex e) ρ h).W N R B C XS = (evE F e ρ h).W (fun _ h => N ρ h) (fun c h => XS c ρ h) := by
  show (Res.sb _ _ _).W N R B C XS = _
  rw [W_sb]; rfl
theorem s_ret : (evS F (.ret e) ρ h).W N R B C XS = (evE F e ρ h).W R (fun c h => XS c ρ h) := by
  show (Res.sb _ _ _).W N R B C XS = _
  rw [W_sb]; rfl
theorem s_ife {a b : Ss} : (evS F (.ife e a b) ρ h).W N R B C XS = (evE F e ρ h).W (fun x h => byT h x ((evSs F a ρ h).W N R B C XS) ((evSs F b ρ h).W N R B C XS)) (fun c h => XS c ρ h) := by
  show (Res.sb _ _ _).W N R B C XS = _
  rw [W_sb, B_]
  congr
theorem s_aug {i : Nat} {o : Bop} : (evS F (.aug i o e) ρ h).W N R B C XS = (match ρ[i]? with | some (some x) => (evE F e ρ h).W (fun y h => match augop o x y with | some z => N (ρ.set i (some z)) h | none => False) (fun c h => XS c ρ h) | _ => False) := by
  show (match ρ[i]? with
    | some (some x) => (evE F e ρ h).sb ρ fun y h => match augop o x y with
      | some z => SRes.nx (ρ.set i (some z)) h
      | none => .stk
    | _ => .stk).W N R B C XS = _
  split
  · rw [W_sb]; congr; funext y h; split <;> rfl
  · rfl
theorem s_for {t : Tg} {i : Iw} {b : Ss} : (evS F (.for_ t i b) ρ h).W N R B C XS = (evI F i ρ h).W (fun w h => (forS (fun x ρ h' => (evT F t x ρ h').nx.sb ρ fun ρ h' => evSs F b ρ h') (fun h' => kept h h' w.keep) w.items ρ h).W N R B C XS) (fun c h => XS c ρ h) := by
  show (Res.sb _ _ _).W N R B C XS = _
  rw [W_sb]
theorem s_whl {b : Ss} : (evS F (.whl e b) ρ h) = whlS (evB F e) (evSs F b) wlim ρ h := rfl
theorem turn_W {t : Tg} {b : Ss} {x : D} : (((evT F t x ρ h).nx.sb ρ fun ρ h' => evSs F b ρ h')).W N R B C XS = (evT F t x ρ h).W (fun ρ h => (evSs F b ρ h).W N R B C XS) (fun _ _ => False) := by
  rw [W_sb, W_nx']
end
/-! loops -/
theorem forS_W {turn : D → Env → PH → SRes} {g : PH → Bool} {N R B C : _} {X : Nat → Env → PH → Prop} (I : List D → Env → PH → Prop) (xs : List D)
    (ht : ∀ done x rest ρ h, xs = done ++ x :: rest → I done ρ h → (turn x ρ h).W (fun ρ' h' => g h' = true ∧ I (done ++ [x]) ρ' h') R N (fun ρ' h' => g h' = true ∧ I (done ++ [x]) ρ' h') X)
    {ρ : Env} {h : PH} (h0 : I [] ρ h) (hd : ∀ ρ h, I xs ρ h → N ρ h) : (forS turn g xs ρ h).W N R B C X := by
  have gen : ∀ rest done ρ h, xs = done ++ rest → I done ρ h → (forS turn g rest ρ h).W N R B C X := by
    intro rest
    induction rest with
    | nil => intro done ρ h e i; rw [List.append_nil] at e; subst e; exact hd ρ h i
    | cons x rest ih =>
      intro done ρ h e i
      have w := ht done x rest ρ h e i
      unfold forS
      cases q : turn x ρ h with
      | nx ρ' h' =>
        rw [q] at w
        show (if g h' then forS turn g rest ρ' h' else .stk).W N R B C X
        rw [if_pos w.1]
        exact ih (done ++ [x]) ρ' h' (by rw [e]; simp) w.2
      | ct ρ' h' =>
        rw [q] at w
        show (if g h' then forS turn g rest ρ' h' else .stk).W N R B C X
        rw [if_pos w.1]
        exact ih (done ++ [x]) ρ' h' (by rw [e]; simp) w.2
      | bk ρ' h' => rw [q] at w; exact w
      | rt d h' => rw [q] at w; exact w
      | ex c ρ' h' => rw [q] at w; exact w
      | stk => rw [q] at w; exact w
  exact gen xs [] ρ h rfl h0
theorem whlS_W {c : Env → PH → Res Bool} {b : Env → PH → SRes} {N : Env → PH → Prop} {R B C} {X : Nat → Env → PH → Prop} (I : Env → PH → Prop) (m : Env → PH → Nat)
    (hc : ∀ ρ h, I ρ h → (c ρ h).W (fun k h' => if k = true then (b ρ h').W (fun ρ' h2 => I ρ' h2 ∧ m ρ' h2 < m ρ h) R N (fun ρ' h2 => I ρ' h2 ∧ m ρ' h2 < m ρ h) X else N ρ h') (fun x h => X x ρ h)) :
    ∀ (n : Nat) (ρ : Env) (h : PH), I ρ h → m ρ h < n → (whlS c b n ρ h).W N R B C X
  | 0, ρ, h, i, l => absurd l (Nat.not_lt_zero _)
  | n + 1, ρ, h, i, l => by
    have w := hc ρ h i
    unfold whlS
    rw [W_sb]
    refine W_mono w (fun k h' w => ?_) fun x h w => w
    cases k with
    | false => exact w
    | true =>
      simp only [if_true] at w ⊢
      cases q : b ρ h' with
      | nx ρ' h2 => rw [q] at w; exact whlS_W I m hc n ρ' h2 w.1 (by have := w.2; omega)
      | ct ρ' h2 => rw [q] at w; exact whlS_W I m hc n ρ' h2 w.1 (by have := w.2; omega)
      | bk ρ' h2 => rw [q] at w; exact w
      | rt d h2 => rw [q] at w; exact w
      | ex c ρ' h2 => rw [q] at w; exact w
      | stk => rw [q] at w; exact w
theorem lcS_W {turn : D → PH → Res (Option D)} {g : PH → Bool} {P : List D → PH → Prop} {X : Nat → PH → Prop} (f : D → Option D) (I : PH → Prop) :
    ∀ (xs acc : List D) (h : PH), (∀ x ∈ xs, ∀ h, I h → (turn x h).W (fun o h' => o = f x ∧ g h' = true ∧ I h') (fun _ _ => False)) → I h → acc.length + xs.length ≤ mx → (∀ h', I h' → P (acc ++ xs.filterMap f) h') → (lcS turn g xs acc h).W P X
  | [], acc, h, ht, i, l, hd => by
    have := hd h i
    rw [List.filterMap_nil, List.append_nil] at this
    exact this
  | x :: xs, acc, h, ht, i, l, hd => by
    have w := ht x List.mem_cons_self h i
    unfold lcS
    cases q : turn x h with
    | stk => rw [q] at w; exact w.elim
    | exc c h' => rw [q] at w; exact w.elim
    | ok o h' =>
      rw [q] at w
      obtain ⟨e, e2, i2⟩ := w
      have ll : acc.length + (xs.length + 1) ≤ mx := by simpa using l
      cases o with
      | some d =>
        show (if g h' = true ∧ acc.length < mx then lcS turn g xs (acc ++ [d]) h' else .stk).W P X
        rw [if_pos ⟨e2, by omega⟩]
        refine lcS_W f I xs (acc ++ [d]) h' (fun x hx => ht x (List.mem_cons_of_mem _ hx)) i2 (by simp; omega) fun h2 i3 => ?_
        have := hd h2 i3
        rw [List.filterMap_cons_some e.symm] at this
        simpa using this
      | none =>
        show (if g h' = true then lcS turn g xs acc h' else .stk).W P X
        rw [if_pos e2]
        refine lcS_W f I xs acc h' (fun x hx => ht x (List.mem_cons_of_mem _ hx)) i2 (by omega) fun h2 i3 => ?_
        have := hd h2 i3
        rw [List.filterMap_cons_none e.symm] at this
        exact this
section
variable {F : Fns} {P : D → PH → Prop} {X : Nat → PH → Prop} {h : PH} {ρ : Env}
theorem e_lc {e : Ex} {t : Tg} {i : Iw} {cs : Exs} {own : List Nat} : (evE F (.lc e t i cs own) ρ h).W P X = (evI F i ρ h).W (fun w h => (lcS (fun x h => (evT F t x (wipeE ρ own) h).bind fun ρ' h => (evC F cs ρ' h).bind fun b h => if b then (evE F e ρ' h).bind fun d h => .ok (some d) h else .ok none h) (fun h' => kept h h' w.keep) w.items [] h).W (fun ds h => P (.ref h.length) (h ++ [.lst ds])) X) X := by
  show (Res.bind _ _).W P X = _
  rw [W_bind]; congr; funext w h
  rw [W_bind]; rfl
theorem lturn_W {e : Ex} {t : Tg} {cs : Exs} {x : D} {Q : Option D → PH → Prop} : ((evT F t x ρ h).bind fun ρ' h => (evC F cs ρ' h).bind fun b h => if b then (evE F e ρ' h).bind fun d h => .ok (some d) h else .ok none h).W Q X =
    (evT F t x ρ h).W (fun ρ' h => (evC F cs ρ' h).W (fun b h => if b = true then (evE F e ρ' h).W (fun d h => Q (some d) h) X else Q none h) X) X := by
  rw [W_bind]; congr; funext ρ' h
  rw [W_bind]; congr; funext b h
  cases b with
  | true => simp only [if_true]; rw [W_bind]; rfl
  | false => simp; rfl
end
/-! operations -/
section
variable {P : D → PH → Prop} {X : Nat → PH → Prop} {h : PH}
theorem b_add {i j : Int} : (binop .add (.int i) (.int j) h).W P X = P (.int (i + j)) h := rfl
theorem b_sub {i j : Int} : (binop .sub (.int i) (.int j) h).W P X = P (.int (i - j)) h := rfl
theorem b_mulR {i j : Int} (h1 : -(2 ^ 64) < j) (h2 : j < 2 ^ 64) : (binop .mul (.int i) (.int j) h).W P X = P (.int (i * j)) h := by
  show (if mulOk i j then Res.ok (.int (i * j)) h else .stk).W P X = _
  have : mulOk i j = true := by unfold mulOk; rw [decide_eq_true h1, decide_eq_true h2]; simp
  rw [if_pos this]; rfl
theorem b_mulL {i j : Int} (h1 : -(2 ^ 64) < i) (h2 : i < 2 ^ 64) : (binop .mul (.int i) (.int j) h).W P X = P (.int (i * j)) h := by
  show (if mulOk i j then Res.ok (.int (i * j)) h else .stk).W P X = _
  have : mulOk i j = true := by unfold mulOk; rw [decide_eq_true h1, decide_eq_true h2]; rfl
  rw [if_pos this]; rfl
theorem b_fdiv {i j : Int} (h1 : 0 < j) (h2 : j.natAbs < 2 ^ 4000) : (binop .fdiv (.int i) (.int j) h).W P X = P (.int (i / j)) h := by
  show (if 0 < j ∧ j.natAbs < 2 ^ 4000 then Res.ok (.int (i / j)) h else if j < 0 ∧ j.natAbs < 1073741824 then .ok (.int (i.fdiv j)) h else .stk).W P X = _
  rw [if_pos ⟨h1, h2⟩]; rfl
theorem b_mod {i j : Int} (h1 : 0 < j) : (binop .mod (.int i) (.int j) h).W P X = P (.int (i % j)) h := by
  show (if 0 < j then Res.ok (.int (i % j)) h else if j < 0 then .ok (.int (i.fmod j)) h else .stk).W P X = _
  rw [if_pos h1]; rfl
theorem b_pow {i j : Int} (h1 : 0 ≤ j ∧ j ≤ 1000000 ∧ i.natAbs < 2 ^ 64) : (binop .pow (.int i) (.int j) h).W P X = P (.int (i ^ j.toNat)) h := by
  show (if 0 ≤ j ∧ j ≤ 1000000 ∧ i.natAbs < 2 ^ 64 then Res.ok (.int (i ^ j.toNat)) h else .stk).W P X = _
  rw [if_pos h1]; rfl
theorem small_div {j : Int} (h1 : 0 < j) (h2 : j < 2 ^ 64) : j.natAbs < 2 ^ 4000 := by
  have h3 : j.natAbs < 2 ^ 64 := by omega
  exact Nat.lt_of_lt_of_le h3 (Nat.pow_le_pow_right (by decide) (by decide))
theorem b_fdivS {i j : Int} (h1 : 0 < j) (h2 : j < 2 ^ 64) : (binop .fdiv (.int i) (.int j) h).W P X = P (.int (i / j)) h := b_fdiv h1 (small_div h1 h2)
theorem c_lt {i j : Int} : (cmpop .lt (.int i) (.int j) h).W P X = P (.bl (decide (i < j))) h := rfl
theorem c_le {i j : Int} : (cmpop .le (.int i) (.int j) h).W P X = P (.bl (decide (i ≤ j))) h := rfl
theorem c_gt {i j : Int} : (cmpop .gt (.int i) (.int j) h).W P X = P (.bl (decide (j < i))) h := rfl
theorem c_ge {i j : Int} : (cmpop .ge (.int i) (.int j) h).W P X = P (.bl (decide (j ≤ i))) h := rfl
theorem c_isN {a b : D} : (cmpop .isN a b h).W P X = P (.bl (decide (a = .non))) h := rfl
theorem c_notN {a b : D} : (cmpop .notN a b h).W P X = P (.bl (!decide (a = .non))) h := rfl
theorem c_eq {a b : D} {k : Bool} (e : eqD h a b = some k) : (cmpop .eq a b h).W P X = P (.bl k) h := by
  show (bool? (eqD h a b) h).W P X = _
  rw [e]; rfl
theorem c_ne {a b : D} {k : Bool} (e : eqD h a b = some k) : (cmpop .ne a b h).W P X = P (.bl (!k)) h := by
  show (bool? ((eqD h a b).map not) h).W P X = _
  rw [e]; rfl
theorem c_eqI {i j : Int} : (cmpop .eq (.int i) (.int j) h).W P X = P (.bl (decide (i = j))) h := c_eq (by show some (i == j) = _; rfl)
theorem c_neI {i j : Int} : (cmpop .ne (.int i) (.int j) h).W P X = P (.bl (!decide (i = j))) h := c_ne (by show some (i == j) = _; rfl)
theorem c_in {a b : D} {k : Bool} (e : memD h a b = some k) : (cmpop .ein a b h).W P X = P (.bl k) h := by
  show (bool? (memD h a b) h).W P X = _
  rw [e]; rfl
theorem c_nin {a b : D} {k : Bool} (e : memD h a b = some k) : (cmpop .nin a b h).W P X = P (.bl (!k)) h := by
  show (bool? ((memD h a b).map not) h).W P X = _
  rw [e]; rfl
end
/-! heaps that grow -/
def Pre (h h' : PH) : Prop := ∃ g, h' = h ++ g
theorem Pre.refl {h : PH} : Pre h h := ⟨[], (List.append_nil _).symm⟩
theorem Pre.trans {h h' h2 : PH} (a : Pre h h') (b : Pre h' h2) : Pre h h2 := by
  obtain ⟨g, rfl⟩ := a
  obtain ⟨g', rfl⟩ := b
  exact ⟨g ++ g', List.append_assoc ..⟩
theorem Pre.app {h h' : PH} (a : Pre h h') (g : PH) : Pre h (h' ++ g) := a.trans ⟨g, rfl⟩
theorem Pre.get {h h' : PH} (a : Pre h h') {l : Nat} {o : O} (e : h[l]? = some o) : h'[l]? = some o := by
  obtain ⟨g, rfl⟩ := a
  rw [List.getElem?_append_left (List.getElem?_eq_some_iff.mp e).1]; exact e
theorem Pre.len {h h' : PH} (a : Pre h h') : h.length ≤ h'.length := by
  obtain ⟨g, rfl⟩ := a
  simp
theorem Pre.set {h h' : PH} (a : Pre h h') {l : Nat} (hl : h.length ≤ l) (o : O) : Pre h (h'.set l o) := by
  obtain ⟨g, rfl⟩ := a
  exact ⟨g.set (l - h.length) o, by rw [List.set_append_right _ _ hl]⟩
theorem get_new {h : PH} {o : O} : (h ++ [o])[h.length]? = some o := by simp
theorem get_set {h : PH} {l : Nat} {o o' : O} (e : h[l]? = some o) : (h.set l o')[l]? = some o' := List.getElem?_set_self (List.getElem?_eq_some_iff.mp e).1
theorem kept_nil {h h' : PH} : kept h h' [] = true := rfl
theorem kept_one {h h' : PH} {l : Nat} (e : h[l]? = h'[l]?) : kept h h' [l] = true := by simp [kept, e]
theorem kept_pre {h h' : PH} {ls : List Nat} (a : Pre h h') (hl : ∀ l ∈ ls, l < h.length) : kept h h' ls = true := by
  unfold kept
  rw [List.all_eq_true]
  intro l hm
  obtain ⟨g, rfl⟩ := a
  simp [List.getElem?_append_left (hl l hm)]
end Mp.Wp

set_option Elab.async false
set_option linter.all false
set_option maxRecDepth 100000
/-! W2: plain data: numbers, texts, tuples. -/
namespace Mp.Wp
open PySem (Str)
/-- numbers, texts, None and tuples of such, at most n tuples in one another -/
def plB : Nat → D → Bool
  | _, .non => true
  | _, .int _ => true
  | _, .str x => PySem.PyData.strOk x
  | n + 1, .tup ds => ds.all (plB n) && decide (ds.length ≤ 4096)
  | _, _ => false
theorem pl_tup {n : Nat} {ds : List D} : plB (n + 1) (.tup ds) = true ↔ (∀ d ∈ ds, plB n d = true) ∧ ds.length ≤ 4096 := by
  show (ds.all (plB n) && decide (ds.length ≤ 4096)) = true ↔ _
  rw [Bool.and_eq_true, List.all_eq_true, decide_eq_true_eq]
theorem plB_mono : ∀ {n m : Nat} {d : D}, plB n d = true → n ≤ m → plB m d = true
  | n, m, .non, _, _ => by cases m <;> rfl
  | n, m, .int _, _, _ => by cases m <;> rfl
  | n, m, .str x, h, _ => by cases n <;> cases m <;> exact h
  | 0, m, .tup ds, h, _ => nomatch h
  | n + 1, 0, .tup ds, h, l => by omega
  | n + 1, m + 1, .tup ds, h, l => by
    rw [pl_tup] at h ⊢
    exact ⟨fun x hx => plB_mono (h.1 x hx) (by omega), h.2⟩
  | n, m, .bl _, h, _ => by cases n <;> cases h
  | n, m, .ref _, h, _ => by cases n <;> cases h
  | n, m, .fn _, h, _ => by cases n <;> cases h
  | n, m, .exn _, h, _ => by cases n <;> cases h
  | n, m, .lst _, h, _ => by cases n <;> cases h
  | n, m, .scr _, h, _ => by cases n <;> cases h
theorem mapO_id {α : Type} {f : α → Option α} : ∀ {xs : List α}, (∀ x ∈ xs, f x = some x) → mapO f xs = some xs
  | [], _ => rfl
  | x :: xs, h => by
    unfold mapO
    rw [h x List.mem_cons_self, mapO_id fun y hy => h y (List.mem_cons_of_mem _ hy)]
theorem deref_pl {h : PH} : ∀ {n m : Nat} {d : D}, plB n d = true → n ≤ m → deref h m d = some d
  | n, m, .non, _, _ => by cases m <;> rfl
  | n, m, .int _, _, _ => by cases m <;> rfl
  | n, m, .str x, h', _ => by
    have e : PySem.PyData.strOk x = true := by cases n <;> exact h'
    have : deref h m (.str x) = if PySem.PyData.strOk x then some (.str x) else none := by cases m <;> rfl
    rw [this, if_pos e]
  | 0, m, .tup ds, h, _ => nomatch h
  | n + 1, 0, .tup ds, h, l => by omega
  | n + 1, m + 1, .tup ds, h', l => by
    have h2 := (pl_tup.mp h').1
    show (match mapO (deref h m) ds with | some es => some (D.tup es) | none => none) = _
    rw [mapO_id fun x hx => deref_pl (h2 x hx) (by omega)]
  | n, m, .bl _, h, _ => by cases n <;> cases h
  | n, m, .ref _, h, _ => by cases n <;> cases h
  | n, m, .fn _, h, _ => by cases n <;> cases h
  | n, m, .exn _, h, _ => by cases n <;> cases h
  | n, m, .lst _, h, _ => by cases n <;> cases h
  | n, m, .scr _, h, _ => by cases n <;> cases h
theorem eqvs_pl {n m : Nat} (ih : ∀ a b, plB n a = true → plB m b = true → D.eqv a b = decide (a = b)) : ∀ (as bs : List D), (∀ x ∈ as, plB n x = true) → (∀ x ∈ bs, plB m x = true) → D.eqvs as bs = decide (as = bs)
  | [], [], _, _ => rfl
  | [], b :: bs, _, _ => rfl
  | a :: as, [], _, _ => rfl
  | a :: as, b :: bs, ha, hb => by
    unfold D.eqvs
    rw [ih a b (ha a List.mem_cons_self) (hb b List.mem_cons_self), eqvs_pl ih as bs (fun x hx => ha x (List.mem_cons_of_mem _ hx)) fun x hx => hb x (List.mem_cons_of_mem _ hx)]
    by_cases h1 : a = b <;> by_cases h2 : as = bs <;> simp [h1, h2]
theorem eqv_pl : ∀ (n m : Nat) (a b : D), plB n a = true → plB m b = true → D.eqv a b = decide (a = b) := by
  intro n
  induction n with
  | zero =>
    intro m a b ha hb
    cases a with
    | non => cases b <;> first | rfl | (cases m <;> cases hb)
    | int i =>
      cases b with
      | int j => show (i == j) = _; by_cases e : i = j <;> simp [e]
      | bl k => cases m <;> cases hb
      | _ => rfl
    | str x =>
      cases b with
      | str y => show (x == y) = _; by_cases e : x = y <;> simp [e]
      | _ => rfl
    | _ => cases ha
  | succ n ih =>
    intro m a b ha hb
    cases a with
    | non => cases b <;> first | rfl | (cases m <;> cases hb)
    | int i =>
      cases b with
      | int j => show (i == j) = _; by_cases e : i = j <;> simp [e]
      | bl k => cases m <;> cases hb
      | _ => rfl
    | str x =>
      cases b with
      | str y => show (x == y) = _; by_cases e : x = y <;> simp [e]
      | _ => rfl
    | tup as =>
      cases b with
      | tup bs =>
        cases m with
        | zero => cases hb
        | succ m =>
          have ha' := (pl_tup.mp ha).1
          have hb' := (pl_tup.mp hb).1
          show D.eqvs as bs = _
          rw [eqvs_pl (fun a b => ih m a b) as bs ha' hb']
          by_cases e : as = bs <;> simp [e]
      | _ => rfl
    | _ => cases ha
/-- plain -/
def Plain (d : D) : Prop := plB 64 d = true
theorem Plain.of {n : Nat} {d : D} (h : plB n d = true) (l : n ≤ 64 := by decide) : Plain d := plB_mono h l
theorem eqD_pl {h : PH} {a b : D} (ha : Plain a) (hb : Plain b) : eqD h a b = some (decide (a = b)) := by
  unfold eqD
  rw [deref_pl ha (Nat.le_refl _), deref_pl hb (Nat.le_refl _)]
  simp only [eqv_pl 64 64 a b ha hb]
theorem any_eqv {a : D} {n : Nat} (ha : plB n a = true) : ∀ ys : List D, (∀ y ∈ ys, plB n y = true) → (ys.any fun z => D.eqv z a) = decide (a ∈ ys)
  | [], _ => rfl
  | y :: ys, h => by
    rw [List.any_cons, eqv_pl n n y a (h y List.mem_cons_self) ha, any_eqv ha ys fun z hz => h z (List.mem_cons_of_mem _ hz)]
    by_cases e : y = a
    · subst e; simp
    · by_cases e2 : a ∈ ys <;> simp [e, e2, Ne.symm e]
theorem deref_lst {h : PH} {l : Nat} {ys : List D} {n : Nat} (e : h[l]? = some (.lst ys)) (hy : ∀ y ∈ ys, plB n y = true) {m : Nat} (l2 : n ≤ m) : deref h (m + 1) (.ref l) = some (.lst ys) := by
  show (match h[l]? with
    | some (.lst ds) => match mapO (deref h m) ds with
      | some es => some (D.lst es)
      | none => none
    | _ => none) = _
  rw [e]
  simp only [mapO_id fun x hx => deref_pl (h := h) (hy x hx) l2]
theorem memD_lst {h : PH} {a : D} {l : Nat} {ys : List D} {n : Nat} (ha : plB n a = true) (e : h[l]? = some (.lst ys)) (hy : ∀ y ∈ ys, plB n y = true) (hn : n ≤ 63 := by decide) : memD h a (.ref l) = some (decide (a ∈ ys)) := by
  have hd : dctOf h (.ref l) = none := by
    show (match h[l]? with | some (.dct kvs) => some kvs | _ => none) = none
    rw [e]
  have : memD h a (.ref l) = (match deref h 64 a, deref h 64 (.ref l) with
      | some x, some (.lst ys) => some (ys.any fun z => D.eqv z x)
      | some x, some (.tup ys) => some (ys.any fun z => D.eqv z x)
      | _, _ => none) := by
    cases a <;> (unfold memD; simp only [hd]) <;> try rfl
  rw [this, deref_pl ha (by omega), deref_lst e hy (by omega : n ≤ 63)]
  simp only [any_eqv ha ys hy]
theorem memD_tup {h : PH} {a : D} {ys : List D} {n : Nat} (ha : plB n a = true) (hy : ∀ y ∈ ys, plB n y = true) (hn : n ≤ 63 := by decide) : memD h a (.tup ys) = some (decide (a ∈ ys)) := by
  have : memD h a (.tup ys) = (match deref h 64 a, deref h 64 (.tup ys) with
      | some x, some (.lst ys) => some (ys.any fun z => D.eqv z x)
      | some x, some (.tup ys) => some (ys.any fun z => D.eqv z x)
      | _, _ => none) := by cases a <;> rfl
  have ht : deref h 64 (.tup ys) = some (.tup ys) := by
    show (match mapO (deref h 63) ys with | some es => some (D.tup es) | none => none) = _
    rw [mapO_id fun x hx => deref_pl (hy x hx) hn]
  rw [this, deref_pl ha (by omega), ht]
  simp only [any_eqv ha ys hy]
theorem eqvs_all {n : Nat} : ∀ (as bs : List D), (∀ x ∈ as, plB n x = true) → (∀ x ∈ bs, plB n x = true) → D.eqvs as bs = decide (as = bs) := eqvs_pl (eqv_pl n n)
theorem eqD_lst {h : PH} {l m : Nat} {xs ys : List D} {n : Nat} (e1 : h[l]? = some (.lst xs)) (e2 : h[m]? = some (.lst ys)) (hx : ∀ y ∈ xs, plB n y = true) (hy : ∀ y ∈ ys, plB n y = true) (hn : n ≤ 63 := by decide) : eqD h (.ref l) (.ref m) = some (decide (xs = ys)) := by
  unfold eqD
  rw [deref_lst e1 hx (by omega : n ≤ 63), deref_lst e2 hy (by omega : n ≤ 63)]
  show some (D.eqvs xs ys) = _
  rw [eqvs_all xs ys hx hy]
theorem pl_int {n : Nat} {i : Int} : plB n (.int i) = true := by cases n <;> rfl
theorem pl_str {n : Nat} {x : Str} : plB n (.str x) = PySem.PyData.strOk x := by cases n <;> rfl
end Mp.Wp

set_option Elab.async false
set_option linter.all false
set_option maxRecDepth 100000
/-! W3: more rules of the operations, over plain data and lists. -/
namespace Mp.Wp
open PySem (Str)
section
variable {F : Fns} {P : D → PH → Prop} {X : Nat → PH → Prop} {h h' : PH} {n : Nat}
theorem pl_of {n : Nat} {d : D} (h : plB n d = true) (l : n ≤ 64 := by decide) : Plain d := plB_mono h l
theorem c_eqP {a b : D} (ha : Plain a) (hb : Plain b) : (cmpop .eq a b h).W P X = P (.bl (decide (a = b))) h := c_eq (eqD_pl ha hb)
theorem c_neP {a b : D} (ha : Plain a) (hb : Plain b) : (cmpop .ne a b h).W P X = P (.bl (!decide (a = b))) h := c_ne (eqD_pl ha hb)
theorem item_0 {a : D} {r : List D} : item (a :: r) 0 = some a := by simp [item, place]
theorem item_1 {a b : D} {r : List D} : item (a :: b :: r) 1 = some b := by
  have : place (a :: b :: r).length 1 = some 1 := by
    unfold place
    rw [if_pos (by decide), if_pos (by simp; omega)]; rfl
  unfold item
  rw [this]; rfl
theorem item_2 {a b c : D} {r : List D} : item (a :: b :: c :: r) 2 = some c := by
  have : place (a :: b :: c :: r).length 2 = some 2 := by
    unfold place
    rw [if_pos (by decide), if_pos (by simp; omega)]; rfl
  unfold item
  rw [this]; rfl
theorem item_3 {a b c d : D} {r : List D} : item (a :: b :: c :: d :: r) 3 = some d := by
  have : place (a :: b :: c :: d :: r).length 3 = some 3 := by
    unfold place
    rw [if_pos (by decide), if_pos (by simp; omega)]; rfl
  unfold item
  rw [this]; rfl
theorem item_4 {a b c d e : D} {r : List D} : item (a :: b :: c :: d :: e :: r) 4 = some e := by
  have : place (a :: b :: c :: d :: e :: r).length 4 = some 4 := by
    unfold place
    rw [if_pos (by decide), if_pos (by simp; omega)]; rfl
  unfold item
  rw [this]; rfl
theorem item_nat {xs : List D} {k : Nat} (hk : k < xs.length) : item xs (k : Int) = some xs[k] := by
  have : place xs.length (k : Int) = some k := by
    unfold place
    rw [if_pos (by omega), if_pos (by omega)]; simp
  unfold item
  rw [this]; simp [hk]
theorem item_int {xs : List D} {i : Int} (h0 : 0 ≤ i) (h1 : i < xs.length) : ∃ d, item xs i = some d ∧ d ∈ xs ∧ xs[i.toNat]? = some d := by
  have hk : i.toNat < xs.length := by omega
  have := item_nat hk
  rw [Int.toNat_of_nonneg h0] at this
  exact ⟨xs[i.toNat], this, List.getElem_mem hk, by simp [hk]⟩
/-- x[i], a list or a tuple known -/
theorem x_seq {a : D} {i : Int} {xs : List D} (e : seqOf h a = some xs) : (ixop a (.int i) h).W P X = (match item xs i with | some d => P d h | none => False) := by
  cases a with
  | str x => cases e
  | non => cases e
  | bl b => cases e
  | int i => cases e
  | fn k => cases e
  | exn k => cases e
  | lst ds => cases e
  | tup ds => cases e; show (match item xs i with | some d => Res.ok d h | none => .stk).W P X = _; split <;> rfl
  | scr ds => cases e; show (match item xs i with | some d => Res.ok d h | none => .stk).W P X = _; split <;> rfl
  | ref l =>
    show (match seqOf h (.ref l) with
      | some xs => (match item xs i with | some d => Res.ok d h | none => .stk)
      | none => .stk).W P X = _
    rw [e]
    show (match item xs i with | some d => Res.ok d h | none => .stk).W P X = _
    split <;> rfl
theorem x_tup {i : Int} {xs : List D} : (ixop (.tup xs) (.int i) h).W P X = (match item xs i with | some d => P d h | none => False) := x_seq rfl
theorem x_scr {i : Int} {xs : List D} : (ixop (.scr xs) (.int i) h).W P X = (match item xs i with | some d => P d h | none => False) := x_seq rfl
theorem seq_ref {l : Nat} {xs : List D} (e : h[l]? = some (.lst xs)) : seqOf h (.ref l) = some xs := by
  show (match h[l]? with | some (.lst ds) => some ds | _ => none) = _
  rw [e]
theorem lst_ref {l : Nat} {xs : List D} (e : h[l]? = some (.lst xs)) : lstOf h (.ref l) = some xs := by
  show (match h[l]? with | some (.lst ds) => some ds | _ => none) = _
  rw [e]
theorem dct_ref {l : Nat} {xs : List (D × D)} (e : h[l]? = some (.dct xs)) : dctOf h (.ref l) = some xs := by
  show (match h[l]? with | some (.dct ds) => some ds | _ => none) = _
  rw [e]
theorem x_ref {i : Int} {l : Nat} {xs : List D} (e : h[l]? = some (.lst xs)) : (ixop (.ref l) (.int i) h).W P X = (match item xs i with | some d => P d h | none => False) := x_seq (seq_ref e)
theorem f_len {a : D} {xs : List D} (e : seqOf h a = some xs) : (bfn .len [a] h).W P X = P (.int xs.length) h := by
  cases a with
  | str x => cases e
  | non => cases e
  | bl b => cases e
  | int i => cases e
  | fn k => cases e
  | exn k => cases e
  | lst ds => cases e
  | tup ds => cases e; rfl
  | scr ds => cases e; rfl
  | ref l =>
    show (match seqOf h (.ref l) with
    | some ds => Res.ok (D.int ds.length) h
    | none => match dctOf h (.ref l) with
      | some kvs => .ok (.int kvs.length) h
      | none => .stk).W P X = _
    rw [e]; rfl
theorem f_lenT {xs : List D} : (bfn .len [.tup xs] h).W P X = P (.int xs.length) h := rfl
theorem f_lenL {l : Nat} {xs : List D} (e : h[l]? = some (.lst xs)) : (bfn .len [.ref l] h).W P X = P (.int xs.length) h := f_len (seq_ref e)
theorem f_list {a : D} {xs : List D} (e : seqOf h a = some xs) : (bfn .list [a] h).W P X = P (.ref h.length) (h ++ [.lst xs]) := by
  show (match seqOf h a with
    | some ds => newL ds h
    | none => .stk).W P X = _
  rw [e]; rfl
theorem f_isi {a : D} {t : Ty} {k : Bool} (e : isTy h a t = some k) : (bfn (.isi t) [a] h).W P X = P (.bl k) h := by
  show (bool? (isTy h a t) h).W P X = _
  rw [e]; rfl
theorem f_isiT {xs : List D} {t : Ty} : (bfn (.isi t) [.tup xs] h).W P X = P (.bl (decide (t = Ty.tuple))) h := f_isi rfl
theorem f_isiI {i : Int} {t : Ty} : (bfn (.isi t) [.int i] h).W P X = P (.bl (decide (t = Ty.int))) h := f_isi rfl
theorem f_isiS {x : Str} {t : Ty} : (bfn (.isi t) [.str x] h).W P X = P (.bl (decide (t = Ty.str))) h := f_isi rfl
theorem f_isiN {t : Ty} : (bfn (.isi t) [.non] h).W P X = P (.bl false) h := f_isi rfl
theorem f_isiL {l : Nat} {xs : List D} {t : Ty} (e : h[l]? = some (.lst xs)) : (bfn (.isi t) [.ref l] h).W P X = P (.bl (decide (t = Ty.list))) h := f_isi (by
  show (match h[l]? with
    | some (.lst _) => some (decide (t = Ty.list))
    | some (.dct _) => some (decide (t = Ty.dict))
    | _ => none) = _
  rw [e])
theorem f_isiD {l : Nat} {xs : List (D × D)} {t : Ty} (e : h[l]? = some (.dct xs)) : (bfn (.isi t) [.ref l] h).W P X = P (.bl (decide (t = Ty.dict))) h := f_isi (by
  show (match h[l]? with
    | some (.lst _) => some (decide (t = Ty.list))
    | some (.dct _) => some (decide (t = Ty.dict))
    | _ => none) = _
  rw [e])
theorem rk_l {l : Nat} {xs : List D} (e : h[l]? = some (.lst xs)) : rkOf h (.ref l) = some .l := by
  show (match h[l]? with
    | some (.lst _) => some Rk.l
    | some (.dct _) => some .d
    | _ => none) = _
  rw [e]
theorem rk_d {l : Nat} {xs : List (D × D)} (e : h[l]? = some (.dct xs)) : rkOf h (.ref l) = some .d := by
  show (match h[l]? with
    | some (.lst _) => some Rk.l
    | some (.dct _) => some .d
    | _ => none) = _
  rw [e]
/-- a list's method: the list is read again behind the arguments -/
theorem m_l {m : Mid} {es : Exs} {ρ : Env} {l : Nat} {xs : List D} (e : h[l]? = some (.lst xs)) (hm : (midId m .l).isSome = true := by rfl) : metW F m es ρ P X (.ref l) h = (evEs F es ρ h).W (fun xs h => (metL m l xs h).W P X) X := by
  unfold metW
  rw [rk_l e]
  show ((midId m .l).isSome = true ∧ _) = _
  rw [hm]; simp; rfl
theorem m_d {m : Mid} {es : Exs} {ρ : Env} {l : Nat} {xs : List (D × D)} (e : h[l]? = some (.dct xs)) (hm : (midId m .d).isSome = true := by rfl) : metW F m es ρ P X (.ref l) h = (evEs F es ρ h).W (fun xs h => (metD m l xs h).W P X) X := by
  unfold metW
  rw [rk_d e]
  show ((midId m .d).isSome = true ∧ _) = _
  rw [hm]; simp; rfl
theorem m_app {es : Exs} {ρ : Env} {l : Nat} {xs : List D} (e : h[l]? = some (.lst xs)) : metW F .append es ρ P X (.ref l) h = (evEs F es ρ h).W (fun xs h => (metL .append l xs h).W P X) X := m_l (m := .append) e
theorem m_ext {es : Exs} {ρ : Env} {l : Nat} {xs : List D} (e : h[l]? = some (.lst xs)) : metW F .extend es ρ P X (.ref l) h = (evEs F es ρ h).W (fun xs h => (metL .extend l xs h).W P X) X := m_l (m := .extend) e
theorem m_pop {es : Exs} {ρ : Env} {l : Nat} {xs : List D} (e : h[l]? = some (.lst xs)) : metW F .pop es ρ P X (.ref l) h = (evEs F es ρ h).W (fun xs h => (metL .pop l xs h).W P X) X := m_l (m := .pop) e
theorem m_popAt {es : Exs} {ρ : Env} {l : Nat} {xs : List D} (e : h[l]? = some (.lst xs)) : metW F .popAt es ρ P X (.ref l) h = (evEs F es ρ h).W (fun xs h => (metL .popAt l xs h).W P X) X := m_l (m := .popAt) e
theorem m_clr {es : Exs} {ρ : Env} {l : Nat} {xs : List D} (e : h[l]? = some (.lst xs)) : metW F .clear es ρ P X (.ref l) h = (evEs F es ρ h).W (fun xs h => (metL .clear l xs h).W P X) X := m_l (m := .clear) e
theorem m_rev {es : Exs} {ρ : Env} {l : Nat} {xs : List D} (e : h[l]? = some (.lst xs)) : metW F .reverse es ρ P X (.ref l) h = (evEs F es ρ h).W (fun xs h => (metL .reverse l xs h).W P X) X := m_l (m := .reverse) e
theorem m_clrD {es : Exs} {ρ : Env} {l : Nat} {xs : List (D × D)} (e : h[l]? = some (.dct xs)) : metW F .clear es ρ P X (.ref l) h = (evEs F es ρ h).W (fun xs h => (metD .clear l xs h).W P X) X := m_d (m := .clear) e
theorem m_get1 {es : Exs} {ρ : Env} {l : Nat} {xs : List (D × D)} (e : h[l]? = some (.dct xs)) : metW F .get1 es ρ P X (.ref l) h = (evEs F es ρ h).W (fun xs h => (metD .get1 l xs h).W P X) X := m_d (m := .get1) e
theorem m_get2 {es : Exs} {ρ : Env} {l : Nat} {xs : List (D × D)} (e : h[l]? = some (.dct xs)) : metW F .get2 es ρ P X (.ref l) h = (evEs F es ρ h).W (fun xs h => (metD .get2 l xs h).W P X) X := m_d (m := .get2) e
theorem m_append {d : D} {l : Nat} {xs : List D} (e : h[l]? = some (.lst xs)) : (metL .append l [d] h).W P X = (xs.length < mx ∧ P .non (h.set l (.lst (xs ++ [d])))) := by
  show (match h[l]? with
    | some (.lst ds) => if ds.length < mx then Res.ok D.non (h.set l (.lst (ds ++ [d]))) else .stk
    | _ => .stk).W P X = _
  rw [e]
  show (if xs.length < mx then Res.ok D.non (h.set l (.lst (xs ++ [d]))) else .stk).W P X = _
  split <;> simp [*, W_ok, W_stk]
theorem b_addL {l m : Nat} {xs ys : List D} (e1 : h[l]? = some (.lst xs)) (e2 : h[m]? = some (.lst ys)) : (binop .add (.ref l) (.ref m) h).W P X = (xs.length + ys.length ≤ mx ∧ P (.ref h.length) (h ++ [.lst (xs ++ ys)])) := by
  show (match h[l]?, h[m]? with
    | some (.lst xs), some (.lst ys) => if xs.length + ys.length ≤ mx then newL (xs ++ ys) h else .stk
    | _, _ => .stk).W P X = _
  rw [e1, e2]
  show (if xs.length + ys.length ≤ mx then newL (xs ++ ys) h else .stk).W P X = _
  split <;> simp [*, W_ok, W_stk, newL]
theorem sl_tup {xs : List D} {lo hi : Option Int} : (slop (.tup xs) lo hi h).W P X = P (.tup (cut xs lo hi)) h := rfl
theorem sl_lst {a : D} {xs : List D} {lo hi : Option Int} (e : lstOf h a = some xs) : (slop a lo hi h).W P X = P (.ref h.length) (h ++ [.lst (cut xs lo hi)]) := by
  cases a with
  | tup ds => cases e
  | _ =>
    unfold slop
    simp only [e]; rfl
theorem cut_to {xs : List D} {k : Nat} : cut xs none (some (k : Int)) = xs.take k := by
  unfold cut
  have : sIx xs.length 0 none = 0 := rfl
  rw [this]
  have h2 : sIx xs.length xs.length (some (k : Int)) = min k xs.length := by
    show (if (k : Int) < 0 then ((k : Int) + (xs.length : Int)).toNat else min (k : Int).toNat xs.length) = _
    rw [if_neg (by omega)]; simp
  rw [h2]
  simp [List.take_eq_take_iff]
theorem cut_from {xs : List D} {k : Nat} : cut xs (some (k : Int)) none = xs.drop k := by
  unfold cut
  have : sIx xs.length xs.length none = xs.length := rfl
  rw [this]
  have h2 : sIx xs.length 0 (some (k : Int)) = min k xs.length := by
    show (if (k : Int) < 0 then ((k : Int) + (xs.length : Int)).toNat else min (k : Int).toNat xs.length) = _
    rw [if_neg (by omega)]; simp
  rw [h2]
  by_cases hk : k ≤ xs.length
  · rw [Nat.min_eq_left hk, List.take_of_length_le (by simp)]
  · rw [Nat.min_eq_right (by omega), List.drop_of_length_le (Nat.le_refl _), List.drop_of_length_le (by omega)]; simp
theorem cut_sub {xs : List D} {lo hi : Option Int} : ∀ d ∈ cut xs lo hi, d ∈ xs := fun d hd => List.mem_of_mem_drop (List.mem_of_mem_take hd)
theorem cut_len {xs : List D} {lo hi : Option Int} : (cut xs lo hi).length ≤ xs.length := by
  unfold cut
  rw [List.length_take, List.length_drop]
  omega
theorem seqW_of {a : D} {xs : List D} {Q : Walk → PH → Prop} (e : seqOf h a = some xs) : (seqW h a).W Q X = Q ⟨xs, locs a⟩ h := by
  unfold seqW; rw [e]; rfl
theorem rngD_len {lo : Int} {n : Nat} : (rngD lo n).length = n := by simp [rngD]
theorem mapO_map {α β : Type} {f : α → Option β} {g : β → α} (e : ∀ x, f (g x) = some x) : ∀ xs : List β, mapO f (xs.map g) = some xs
  | [] => rfl
  | x :: xs => by
    rw [List.map_cons]
    unfold mapO
    rw [e, mapO_map e xs]
theorem intsD_map (is : List Int) : intsD (is.map D.int) = some is := by
  unfold intsD
  exact mapO_map (g := D.int) (fun _ => rfl) is
theorem bools_map (is : List Bool) : bools (is.map D.bl) = some is := by
  unfold bools
  exact mapO_map (g := D.bl) (fun _ => rfl) is
theorem f_maxd {a : D} {is : List Int} {d : Int} (e : lstOf h a = some (is.map D.int)) : (bfn .maxd [a, .int d] h).W P X = P (.int (mxd d is)) h := by
  show (match lstOf h a with
    | some ds => (match intsD ds with
      | some is => Res.ok (D.int (mxd d is)) h
      | none => .stk)
    | none => .stk).W P X = _
  rw [e]; simp only [intsD_map]; rfl
theorem f_all {a : D} {is : List Bool} (e : lstOf h a = some (is.map D.bl)) : (bfn .all [a] h).W P X = P (.bl (is.all id)) h := by
  show (match lstOf h a with
    | some ds => (match bools ds with
      | some bs => Res.ok (D.bl (bs.all id)) h
      | none => .stk)
    | none => .stk).W P X = _
  rw [e]; simp only [bools_map]; rfl
theorem f_any {a : D} {is : List Bool} (e : lstOf h a = some (is.map D.bl)) : (bfn .any [a] h).W P X = P (.bl (is.any id)) h := by
  show (match lstOf h a with
    | some ds => (match bools ds with
      | some bs => Res.ok (D.bl (bs.any id)) h
      | none => .stk)
    | none => .stk).W P X = _
  rw [e]; simp only [bools_map]; rfl
end
end Mp.Wp

set_option Elab.async false
set_option linter.all false
set_option maxRecDepth 100000
/-! W4: loops by places, comprehensions of any items. -/
namespace Mp.Wp
open PySem (Str)
/-- a loop by the number of turns gone -/
theorem forI_W {turn : D → Env → PH → SRes} {g : PH → Bool} {N R B C : _} {X : Nat → Env → PH → Prop} (I : Nat → Env → PH → Prop) (xs : List D)
    (ht : ∀ k x ρ h, xs[k]? = some x → I k ρ h → (turn x ρ h).W (fun ρ' h' => g h' = true ∧ I (k + 1) ρ' h') R N (fun ρ' h' => g h' = true ∧ I (k + 1) ρ' h') X)
    {ρ : Env} {h : PH} (h0 : I 0 ρ h) (hd : ∀ ρ h, I xs.length ρ h → N ρ h) : (forS turn g xs ρ h).W N R B C X := by
  refine forS_W (fun done ρ h => (∃ r, xs = done ++ r) ∧ I done.length ρ h) xs (fun done x rest ρ h e i => ?_) ⟨⟨xs, rfl⟩, h0⟩ fun ρ h i => hd ρ h i.2
  refine SW_mono (ht done.length x ρ h (by rw [e]; simp) i.2) (fun ρ' h' w => ⟨w.1, ⟨rest, by rw [e]; simp⟩, ?_⟩) (fun _ _ w => w) (fun _ _ w => w) (fun ρ' h' w => ⟨w.1, ⟨rest, by rw [e]; simp⟩, ?_⟩) fun _ _ _ w => w
  · have := w.2; simpa using this
  · have := w.2; simpa using this
theorem enumD_get : ∀ (xs : List D) (j k : Nat), (enumD j xs)[k]? = xs[k]?.map fun d => .tup [.int ((j + k : Nat) : Int), d]
  | [], j, k => by simp [enumD]
  | x :: xs, j, 0 => by simp [enumD]
  | x :: xs, j, k + 1 => by
    show (enumD (j + 1) xs)[k]? = _
    rw [enumD_get xs (j + 1) k]
    simp [Nat.add_assoc, Nat.add_comm, Nat.add_left_comm]
theorem enumD_len : ∀ (xs : List D) (j : Nat), (enumD j xs).length = xs.length
  | [], j => rfl
  | x :: xs, j => by show (enumD (j + 1) xs).length + 1 = _; rw [enumD_len xs]; rfl
/-- for k, x in enumerate(xs) -/
theorem forE_W {turn : D → Env → PH → SRes} {g : PH → Bool} {N R B C : _} {X : Nat → Env → PH → Prop} (I : Nat → Env → PH → Prop) (xs : List D)
    (ht : ∀ (k : Nat) x ρ h, xs[k]? = some x → I k ρ h → (turn (.tup [.int k, x]) ρ h).W (fun ρ' h' => g h' = true ∧ I (k + 1) ρ' h') R N (fun ρ' h' => g h' = true ∧ I (k + 1) ρ' h') X)
    {ρ : Env} {h : PH} (h0 : I 0 ρ h) (hd : ∀ ρ h, I xs.length ρ h → N ρ h) : (forS turn g (enumD 0 xs) ρ h).W N R B C X := by
  refine forI_W I (enumD 0 xs) (fun k x ρ h e i => ?_) h0 fun ρ h i => hd ρ h (by rw [enumD_len] at i; exact i)
  rw [enumD_get] at e
  cases q : xs[k]? with
  | none => rw [q] at e; cases e
  | some d =>
    rw [q] at e
    cases e
    have := ht k d ρ h q i
    simpa using this
theorem zipD_get : ∀ (xs ys : List D) (k : Nat) (x : D), (zipD xs ys)[k]? = some x → ∃ a b, xs[k]? = some a ∧ ys[k]? = some b ∧ x = .tup [a, b]
  | a :: as, b :: bs, 0, x, e => by
    have : x = .tup [a, b] := by simpa [zipD] using e.symm
    exact ⟨a, b, rfl, rfl, this⟩
  | a :: as, b :: bs, k + 1, x, e => by
    obtain ⟨a', b', h1, h2, h3⟩ := zipD_get as bs k x (by simpa [zipD] using e)
    exact ⟨a', b', by simpa using h1, by simpa using h2, h3⟩
  | [], _, k, x, e => by simp [zipD] at e
  | _ :: _, [], k, x, e => by simp [zipD] at e
theorem zipD_len : ∀ (xs ys : List D), (zipD xs ys).length = min xs.length ys.length
  | a :: as, b :: bs => by show (zipD as bs).length + 1 = _; rw [zipD_len as bs]; simp
  | [], _ => by simp [zipD]
  | _ :: _, [] => by simp [zipD]
/-- for k in range(lo, lo + n) -/
theorem forR_W {turn : D → Env → PH → SRes} {g : PH → Bool} {N R B C : _} {X : Nat → Env → PH → Prop} (I : Nat → Env → PH → Prop) (lo : Int) (n : Nat)
    (ht : ∀ (k : Nat) ρ h, k < n → I k ρ h → (turn (.int (lo + k)) ρ h).W (fun ρ' h' => g h' = true ∧ I (k + 1) ρ' h') R N (fun ρ' h' => g h' = true ∧ I (k + 1) ρ' h') X)
    {ρ : Env} {h : PH} (h0 : I 0 ρ h) (hd : ∀ ρ h, I n ρ h → N ρ h) : (forS turn g (rngD lo n) ρ h).W N R B C X := by
  refine forI_W I (rngD lo n) (fun k x ρ h e i => ?_) h0 fun ρ h i => hd ρ h (by rw [rngD_len] at i; exact i)
  unfold rngD at e
  rw [List.getElem?_map] at e
  by_cases hk : k < n
  · rw [List.getElem?_range hk] at e
    cases e
    exact ht k ρ h hk i
  · rw [List.getElem?_eq_none (by simpa using hk)] at e
    cases e
/-- a comprehension of which only what holds of each item is said -/
theorem lcS_any {turn : D → PH → Res (Option D)} {g : PH → Bool} {P : List D → PH → Prop} {X : Nat → PH → Prop} (Q : D → Prop) (I : PH → Prop) :
    ∀ (xs acc : List D) (h : PH), (∀ x ∈ xs, ∀ h, I h → (turn x h).W (fun o h' => (∀ d, o = some d → Q d) ∧ g h' = true ∧ I h') (fun _ _ => False)) → I h → acc.length + xs.length ≤ mx → (∀ d ∈ acc, Q d) →
      (∀ ys h', I h' → (∀ d ∈ ys, Q d) → ys.length ≤ acc.length + xs.length → P ys h') → (lcS turn g xs acc h).W P X
  | [], acc, h, ht, i, l, q, hd => hd acc h i q (by simp)
  | x :: xs, acc, h, ht, i, l, q, hd => by
    have w := ht x List.mem_cons_self h i
    unfold lcS
    have ll : acc.length + (xs.length + 1) ≤ mx := by simpa using l
    cases e : turn x h with
    | stk => rw [e] at w; exact w.elim
    | exc c h' => rw [e] at w; exact w.elim
    | ok o h' =>
      rw [e] at w
      obtain ⟨e1, e2, i2⟩ := w
      cases o with
      | some d =>
        show (if g h' = true ∧ acc.length < mx then lcS turn g xs (acc ++ [d]) h' else .stk).W P X
        rw [if_pos ⟨e2, by omega⟩]
        refine lcS_any Q I xs (acc ++ [d]) h' (fun x hx => ht x (List.mem_cons_of_mem _ hx)) i2 (by simp; omega) (fun y hy => ?_) fun ys h2 i3 q2 l2 => hd ys h2 i3 q2 (by simp at l2 ⊢; omega)
        rcases List.mem_append.mp hy with z | z
        · exact q y z
        · rw [List.mem_singleton.mp z]; exact e1 d rfl
      | none =>
        show (if g h' = true then lcS turn g xs acc h' else .stk).W P X
        rw [if_pos e2]
        exact lcS_any Q I xs acc h' (fun x hx => ht x (List.mem_cons_of_mem _ hx)) i2 (by omega) q fun ys h2 i3 q2 l2 => hd ys h2 i3 q2 (by simp; omega)
theorem mxd_ge : ∀ (is : List Int) (d : Int), ∀ x ∈ is, x ≤ mxd d is
  | [], d, x, h => by simp at h
  | i :: r, d, x, h => by
    show x ≤ r.foldl max i
    have gen : ∀ (r : List Int) (i : Int), i ≤ r.foldl max i ∧ ∀ x ∈ r, x ≤ r.foldl max i := by
      intro r
      induction r with
      | nil => intro i; exact ⟨Int.le_refl _, fun x h => by simp at h⟩
      | cons j r ih =>
        intro i
        obtain ⟨a, b⟩ := ih (max i j)
        refine ⟨Int.le_trans (Int.le_max_left ..) a, fun x hx => ?_⟩
        rcases List.mem_cons.mp hx with rfl | hx
        · exact Int.le_trans (Int.le_max_right ..) a
        · exact b x hx
    rcases List.mem_cons.mp h with rfl | h
    · exact (gen r _).1
    · exact (gen r i).2 x h
/-- the list of the law's ints by a number -/
abbrev bStream : Ss := (.cons (.asg (.name 2) (.lst .nil)) (.cons (.asg (.name 3) (.bin .fdiv (.var 0) (.cst (.int 2)))) (.cons (.whl (.and (.cmp .eq (.bin .mod (.var 0) (.cst (.int 2))) (.cst (.int 0))) (.and (.cmp .gt (.var 3) (.cst (.int 0))) (.cmp .lt (.bfn .len (.cons (.var 2) .nil)) (.var 1)))) (.cons (.ex (.met .append (.var 2) (.cons (.bin .mod (.var 3) (.bin .pow (.cst (.int 10)) (.cst (.int 9)))) .nil))) (.cons (.asg (.name 3) (.bin .fdiv (.var 3) (.bin .pow (.cst (.int 10)) (.cst (.int 9))))) .nil))) (.cons (.asg (.name 3) (.bin .mod (.bin .mul (.bin .add (.bin .fdiv (.var 0) (.cst (.int 2))) (.cst (.int 7919))) (.cst (.int 48271))) (.cst (.int 2147483647)))) (.cons (.for_ (.name 4) (.rng1 (.var 1)) (.cons (.asg (.name 3) (.bin .mod (.bin .mul (.var 3) (.bin .add (.bin .add (.bin .fdiv (.var 3) (.cst (.int 1009))) (.cst (.int 69621))) (.var 4))) (.cst (.int 2147483647)))) (.cons (.ex (.met .append (.var 2) (.cons (.var 3) .nil))) (.cons (.asg (.name 3) (.bin .add (.var 3) (.cst (.int 1)))) .nil)))) (.cons (.ret (.sl (.var 2) .no (.yes (.var 1)))) .nil))))))
local macro_rules | `(tactic| walk_at "wp") => `(tactic| simp -implicitDefEqProofs only [W_fin, s_nil, s_cons, s_pass, s_retN, s_asgn, s_asg, s_ex, s_ret, s_ife, s_aug, s_for, B_, e_cst, e_var, e_bin, e_neg, e_cmp, e_chain, chain_bl, e_and, e_or, e_not, e_ite, e_tup, e_lst, e_dct0, e_ix, e_sl, o_no, o_yes, es_nil, es_cons, e_call, e_bfn, e_met, i_seq, i_enum, i_zip, i_rng1, i_rng2, t_name, t_tup, t_sub, ts_nil, ts_cons, c_nil, c_one, e_lc, byT_bl, b_add, b_sub, c_lt, c_le, c_gt, c_ge, c_eqI, c_neI, x_tup, x_scr, item_0, item_1, item_2, item_3, item_4, f_lenT, sl_tup, List.getElem?_cons_zero, List.getElem?_cons_succ, List.set_cons_zero, List.set_cons_succ, List.nil_append, List.append_nil, List.cons_append, List.length_nil, List.length_cons])
section
variable {F : Fns} {P : D → PH → Prop} {X : Nat → PH → Prop} {h : PH}
theorem pw109 {Q : D → PH → Prop} : (binop .pow (.int 10) (.int 9) h).W Q X = Q (.int 1000000000) h := b_pow (by decide)
theorem pw106 {Q : D → PH → Prop} : (binop .pow (.int 10) (.int 6) h).W Q X = Q (.int 1000000) h := b_pow (by decide)
theorem s_whl_W {e : Ex} {b : Ss} {ρ : Env} {N R B C} {XS : Nat → Env → PH → Prop} (I : Env → PH → Prop) (m : Env → PH → Nat) (E : Env → PH → Prop)
    (hc : ∀ ρ h, I ρ h → (evE F e ρ h).W (fun x h' => byT h' x ((evSs F b ρ h').W (fun ρ' h2 => I ρ' h2 ∧ m ρ' h2 < m ρ h) R E (fun ρ' h2 => I ρ' h2 ∧ m ρ' h2 < m ρ h) XS) (E ρ h')) (fun c h => XS c ρ h))
    (hi : I ρ h) (hm : m ρ h < wlim) (hE : ∀ ρ h, E ρ h → N ρ h) : (evS F (.whl e b) ρ h).W N R B C XS := by
  rw [s_whl]
  have := whlS_W (c := evB F e) (b := evSs F b) (N := E) (R := R) (B := B) (C := C) (X := XS) I m (fun ρ h i => ?_) wlim ρ h hi hm
  · exact SW_mono this hE (fun _ _ w => w) (fun _ _ w => w) (fun _ _ w => w) fun _ _ _ w => w
  · rw [B_]
    have := hc ρ h i
    simpa using this
theorem stream_W {c : Int} {m : Nat} (hm : m ≤ 1000) (k : ∀ (is : List Int) l h', is.length = m → (∀ i ∈ is, 0 ≤ i) → Pre h h' → h'[l]? = some (.lst (is.map D.int)) → h.length ≤ l → P (.ref l) h') :
    ((evSs F bStream [some (.int c), some (.int m), none, none, none] h).fin).W P X := by
  walk_at "wp"
  refine ⟨by decide, ?_⟩
  rw [b_fdivS (by decide) (by decide)]
  refine s_whl_W (fun ρ h' => ∃ (i : Int) (is : List Int), ρ = [some (.int c), some (.int m), some (.ref h.length), some (.int i), none] ∧ is.length ≤ m ∧ (∀ i ∈ is, 0 ≤ i) ∧ Pre h h' ∧ h'[h.length]? = some (.lst (is.map D.int)))
    (fun ρ h' => match h'[h.length]? with | some (.lst ds) => m - ds.length | _ => 0)
    (fun ρ h' => ∃ (i : Int) (is : List Int), ρ = [some (.int c), some (.int m), some (.ref h.length), some (.int i), none] ∧ is.length ≤ m ∧ (∀ i ∈ is, 0 ≤ i) ∧ Pre h h' ∧ h'[h.length]? = some (.lst (is.map D.int))) ?_ ⟨c / 2, [], rfl, Nat.zero_le _, (fun _ h => by simp at h), Pre.refl.app _, by simp⟩ ?_ ?_
  · intro ρ h' ⟨i, is, e, l1, p1, p2, p3⟩
    subst e
    walk_at "wp"
    rw [b_mod (by decide)]
    walk_at "wp"
    simp only [f_lenL p3, pw109]
    walk_at "wp"
    simp only [List.length_map]
    have fin : ∃ (i' : Int) (is' : List Int), [some (D.int c), some (.int m), some (.ref h.length), some (.int i), none] = [some (.int c), some (.int m), some (.ref h.length), some (.int i'), none] ∧ is'.length ≤ m ∧ (∀ i ∈ is', 0 ≤ i) ∧ Pre h h' ∧ h'[h.length]? = some (.lst (is'.map D.int)) := ⟨i, is, rfl, l1, p1, p2, p3⟩
    by_cases c0 : c % 2 = 0
    · by_cases c1 : 0 < i
      · by_cases c2 : (is.length : Int) < (m : Int)
        · have c2' : is.length < m := by omega
          simp only [c0, c1, c2, decide_true, if_true]
          simp only [m_app p3]
          walk_at "wp"
          simp only [b_mod (show (0 : Int) < 1000000000 by decide), pw109]
          rw [m_append p3]
          rw [b_fdivS (by decide) (by decide)]
          refine ⟨by simp [mx]; omega, ⟨i / 1000000000, is ++ [i % 1000000000], rfl, by simp; omega, ?_, p2.set (Nat.le_refl _) _, by rw [get_set p3]; simp⟩, ?_⟩
          · intro j hj
            rcases List.mem_append.mp hj with hj | hj
            · exact p1 j hj
            · rw [List.mem_singleton.mp hj]; exact Int.emod_nonneg _ (by decide)
          · rw [get_set p3, p3]
            simp; omega
        · simp only [c0, c1, c2, decide_true, decide_false, if_true, Bool.false_eq_true, if_false]
          exact fin
      · simp only [c0, c1, decide_true, decide_false, if_true, Bool.false_eq_true, if_false]
        exact fin
    · simp only [c0, decide_false, Bool.false_eq_true, if_false]
      exact fin
  · simp [wlim]; omega
  · intro ρ h' ⟨i, is, e, l1, p1, p2, p3⟩
    subst e
    walk_at "wp"
    rw [b_fdivS (by decide) (by decide)]
    walk_at "wp"
    rw [b_mulR (by decide) (by decide)]
    rw [b_mod (by decide)]
    rw [rngW_ok (by decide) (by decide) (by omega) (by omega)]
    have e0 : ((m : Int) - 0).toNat = m := by omega
    rw [e0]
    refine forR_W (fun k ρ h' => ∃ (i : Int) (z : Option D) (is : List Int), ρ = [some (.int c), some (.int m), some (.ref h.length), some (.int i), z] ∧ 0 ≤ i ∧ i ≤ 2147483648 ∧ is.length ≤ m + k ∧ k ≤ is.length ∧ (∀ i ∈ is, 0 ≤ i) ∧ Pre h h' ∧ h'[h.length]? = some (.lst (is.map D.int))) 0 m ?_ ?_ ?_
    · intro k ρ h' hk ⟨i, z, is, e, i0, i1, q1, q2, q3, q4, q5⟩
      subst e
      rw [turn_W]
      walk_at "wp"
      rw [b_fdivS (by decide) (by decide)]
      walk_at "wp"
      rw [b_mulL (by omega) (by omega), b_mod (by decide)]
      have r0 := Int.emod_nonneg (i * (i / 1009 + 69621 + (0 + (k : Int)))) (show (2147483647 : Int) ≠ 0 by decide)
      have r1 := Int.emod_lt_of_pos (i * (i / 1009 + 69621 + (0 + (k : Int)))) (show (0 : Int) < 2147483647 by decide)
      generalize i * (i / 1009 + 69621 + (0 + (k : Int))) % 2147483647 = r at r0 r1
      simp only [m_app q5]
      walk_at "wp"
      rw [m_append q5]
      refine ⟨by simp [mx]; omega, kept_nil, r + 1, _, is ++ [r], rfl, by omega, by omega, by simp; omega, by simp; omega, ?_, q4.set (Nat.le_refl _) _, by rw [get_set q5]; simp⟩
      intro j hj
      rcases List.mem_append.mp hj with hj | hj
      · exact q3 j hj
      · rw [List.mem_singleton.mp hj]; exact r0
    · refine ⟨_, none, is, rfl, Int.emod_nonneg _ (by decide), ?_, l1, Nat.zero_le _, p1, p2, p3⟩
      have := Int.emod_lt_of_pos ((c / 2 + 7919) * 48271) (show (0 : Int) < 2147483647 by decide)
      omega
    · intro ρ h' ⟨i, z, is, e, i0, i1, q1, q2, q3, q4, q5⟩
      subst e
      walk_at "wp"
      rw [sl_lst (lst_ref q5), cut_to, ← List.map_take]
      refine k (is.take m) _ _ (by simp; omega) (fun i hi => q3 i (List.mem_of_mem_take hi)) (q4.app _) get_new q4.len
end
end Mp.Wp

set_option Elab.async false
set_option linter.all false
set_option maxRecDepth 100000
set_option maxHeartbeats 4000000
namespace Q31
open Mp
/-- is_call: 0 term -/
abbrev b0 : Ss := (.cons (.ret (.or (.cmp .eq (.ix (.var 0) (.cst (.int 0))) (.cst (.str "call"))) (.and (.cmp .eq (.ix (.var 0) (.cst (.int 0))) (.cst (.str "read"))) (.cmp .eq (.ix (.ix (.var 0) (.cst (.int 1))) (.cst (.int 0))) (.cst (.str "unknown")))))) .nil)
/-- are_pair: 0 one, 1 other -/
abbrev b1 : Ss := (.cons (.ret (.and (.cmp .ne (.var 0) (.var 1)) (.and (.cmp .eq (.ix (.var 0) (.cst (.int 0))) (.ix (.var 1) (.cst (.int 0)))) (.cmp .eq (.ix (.var 0) (.cst (.int 1))) (.ix (.var 1) (.cst (.int 1))))))) .nil)
/-- pairs_of: 0 terms, 1 calls, 2 term, 3 found, 4 k, 5 one, 6 other -/
abbrev b2 : Ss := (.cons (.asg (.name 1) (.lst .nil)) (.cons (.for_ (.name 2) (.seq (.var 0)) (.cons (.ife (.and (.call 0 (.cons (.var 2) .nil) []) (.cmp .nin (.var 2) (.var 1))) (.cons (.ex (.met .append (.var 1) (.cons (.var 2) .nil))) .nil) .nil) .nil)) (.cons (.asg (.name 3) (.lst .nil)) (.cons (.for_ (.tup (.cons (.name 4) (.cons (.name 5) .nil))) (.enum (.var 1)) (.cons (.for_ (.name 6) (.seq (.sl (.var 1) (.yes (.bin .add (.var 4) (.cst (.int 1)))) .no)) (.cons (.ife (.call 1 (.cons (.var 5) (.cons (.var 6) .nil)) []) (.cons (.ex (.met .append (.var 3) (.cons (.tup (.cons (.var 5) (.cons (.var 6) .nil))) .nil))) .nil) .nil) .nil)) .nil)) (.cons (.ret (.var 3)) .nil)))))
/-- _law_cell_at: 0 _law_script, 1 _law_k -/
abbrev b3 : Ss := (.cons (.ife (.cmp .lt (.var 1) (.bfn .len (.cons (.var 0) .nil))) (.cons (.ret (.ix (.var 0) (.var 1))) .nil) .nil) (.cons (.ret (.cst (.int 0))) .nil))
/-- _law_stream: 0 _law_cell, 1 _law_many, 2 _law_found, 3 _law_number, 4 _law_k -/
abbrev b4 : Ss := (.cons (.asg (.name 2) (.lst .nil)) (.cons (.asg (.name 3) (.bin .fdiv (.var 0) (.cst (.int 2)))) (.cons (.whl (.and (.cmp .eq (.bin .mod (.var 0) (.cst (.int 2))) (.cst (.int 0))) (.and (.cmp .gt (.var 3) (.cst (.int 0))) (.cmp .lt (.bfn .len (.cons (.var 2) .nil)) (.var 1)))) (.cons (.ex (.met .append (.var 2) (.cons (.bin .mod (.var 3) (.bin .pow (.cst (.int 10)) (.cst (.int 9)))) .nil))) (.cons (.asg (.name 3) (.bin .fdiv (.var 3) (.bin .pow (.cst (.int 10)) (.cst (.int 9))))) .nil))) (.cons (.asg (.name 3) (.bin .mod (.bin .mul (.bin .add (.bin .fdiv (.var 0) (.cst (.int 2))) (.cst (.int 7919))) (.cst (.int 48271))) (.cst (.int 2147483647)))) (.cons (.for_ (.name 4) (.rng1 (.var 1)) (.cons (.asg (.name 3) (.bin .mod (.bin .mul (.var 3) (.bin .add (.bin .add (.bin .fdiv (.var 3) (.cst (.int 1009))) (.cst (.int 69621))) (.var 4))) (.cst (.int 2147483647)))) (.cons (.ex (.met .append (.var 2) (.cons (.var 3) .nil))) (.cons (.asg (.name 3) (.bin .add (.var 3) (.cst (.int 1)))) .nil)))) (.cons (.ret (.sl (.var 2) .no (.yes (.var 1)))) .nil))))))
/-- _law_depth: 0 _law_term_here, 1 _law_part -/
abbrev b5 : Ss := (.cons (.ret (.bin .add (.cst (.int 1)) (.bfn .maxd (.cons (.lc (.call 5 (.cons (.var 1) .nil) []) (.name 1) (.seq (.var 0)) (.cons (.bfn (.isi .tuple) (.cons (.var 1) .nil)) .nil) [1]) (.cons (.cst (.int 0)) .nil))))) .nil)
/-- _law_num: 0 _law_made, 1 _law_number, 2 _law_nums, 3 _law_term_here -/
abbrev b6 : Ss := (.cons (.asg (.name 2) (.lc (.var 3) (.name 3) (.seq (.var 0)) (.cons (.or (.cmp .ein (.ix (.var 3) (.cst (.int 0))) (.tup (.cons (.cst (.str "number")) (.cons (.cst (.str "plus")) (.cons (.cst (.str "read")) .nil))))) (.cmp .eq (.sl (.var 3) .no (.yes (.cst (.int 2)))) (.tup (.cons (.cst (.str "call")) (.cons (.cst (.str "f")) .nil))))) .nil) [3])) (.cons (.asg (.name 2) (.bin .add (.var 2) (.lst (.cons (.tup (.cons (.cst (.str "unknown")) (.cons (.cst (.str "x")) .nil))) (.cons (.tup (.cons (.cst (.str "unknown")) (.cons (.cst (.str "y")) .nil))) .nil))))) (.cons (.ife (.cmp .eq (.bin .mod (.var 1) (.cst (.int 3))) (.cst (.int 0))) (.cons (.ret (.tup (.cons (.cst (.str "number")) (.cons (.tup (.cons (.bin .mod (.bin .fdiv (.var 1) (.cst (.int 3))) (.bin .pow (.cst (.int 10)) (.cst (.int 6)))) (.cons (.cst (.int 1)) .nil))) .nil)))) .nil) .nil) (.cons (.ret (.ix (.var 2) (.bin .mod (.bin .fdiv (.var 1) (.cst (.int 3))) (.bfn .len (.cons (.var 2) .nil))))) .nil))))
/-- _law_thing: 0 _law_made, 1 _law_number, 2 _law_things, 3 _law_term_here -/
abbrev b7 : Ss := (.cons (.asg (.name 2) (.lc (.var 3) (.name 3) (.seq (.var 0)) (.cons (.cmp .ein (.sl (.var 3) .no (.yes (.cst (.int 2)))) (.tup (.cons (.tup (.cons (.cst (.str "call")) (.cons (.cst (.str "g")) .nil))) (.cons (.tup (.cons (.cst (.str "call")) (.cons (.cst (.str "h")) .nil))) .nil)))) .nil) [3])) (.cons (.asg (.name 2) (.bin .add (.var 2) (.lst (.cons (.tup (.cons (.cst (.str "unknown")) (.cons (.cst (.str "a")) .nil))) (.cons (.tup (.cons (.cst (.str "unknown")) (.cons (.cst (.str "b")) .nil))) (.cons (.tup (.cons (.cst (.str "unknown")) (.cons (.cst (.str "c")) .nil))) .nil)))))) (.cons (.ret (.ix (.var 2) (.bin .mod (.var 1) (.bfn .len (.cons (.var 2) .nil))))) .nil)))
/-- _law_term: 0 _law_made, 1 _law_xs, 2 _law_way, 3 _law_array -/
abbrev b8 : Ss := (.cons (.asg (.name 2) (.bin .mod (.ix (.var 1) (.cst (.int 0))) (.cst (.int 8)))) (.cons (.ife (.cmp .eq (.var 2) (.cst (.int 0))) (.cons (.ret (.tup (.cons (.cst (.str "number")) (.cons (.tup (.cons (.bin .mod (.ix (.var 1) (.cst (.int 1))) (.bin .pow (.cst (.int 10)) (.cst (.int 6)))) (.cons (.cst (.int 1)) .nil))) .nil)))) .nil) .nil) (.cons (.ife (.cmp .eq (.var 2) (.cst (.int 1))) (.cons (.ret (.tup (.cons (.cst (.str "unknown")) (.cons (.ix (.lst (.cons (.cst (.str "x")) (.cons (.cst (.str "y")) (.cons (.cst (.str "a")) (.cons (.cst (.str "b")) .nil))))) (.bin .mod (.ix (.var 1) (.cst (.int 1))) (.cst (.int 4)))) .nil)))) .nil) .nil) (.cons (.ife (.cmp .eq (.var 2) (.cst (.int 2))) (.cons (.ret (.tup (.cons (.cst (.str "plus")) (.cons (.tup (.cons (.call 6 (.cons (.var 0) (.cons (.ix (.var 1) (.cst (.int 1))) .nil)) []) (.cons (.call 6 (.cons (.var 0) (.cons (.ix (.var 1) (.cst (.int 2))) .nil)) []) .nil))) .nil)))) .nil) .nil) (.cons (.ife (.cmp .eq (.var 2) (.cst (.int 3))) (.cons (.ret (.tup (.cons (.cst (.str "call")) (.cons (.cst (.str "f")) (.cons (.tup (.cons (.call 6 (.cons (.var 0) (.cons (.ix (.var 1) (.cst (.int 1))) .nil)) []) (.cons (.call 7 (.cons (.var 0) (.cons (.ix (.var 1) (.cst (.int 2))) .nil)) []) .nil))) .nil))))) .nil) .nil) (.cons (.ife (.cmp .eq (.var 2) (.cst (.int 4))) (.cons (.ret (.tup (.cons (.cst (.str "call")) (.cons (.cst (.str "g")) (.cons (.tup (.cons (.call 7 (.cons (.var 0) (.cons (.ix (.var 1) (.cst (.int 1))) .nil)) []) .nil)) .nil))))) .nil) .nil) (.cons (.ife (.cmp .eq (.var 2) (.cst (.int 5))) (.cons (.ret (.tup (.cons (.cst (.str "call")) (.cons (.cst (.str "h")) (.cons (.tup (.cons (.call 6 (.cons (.var 0) (.cons (.ix (.var 1) (.cst (.int 1))) .nil)) []) .nil)) .nil))))) .nil) .nil) (.cons (.asg (.name 3) (.tup (.cons (.cst (.str "unknown")) (.cons (.ix (.lst (.cons (.cst (.str "p")) (.cons (.cst (.str "q")) .nil))) (.bin .mod (.ix (.var 1) (.cst (.int 1))) (.cst (.int 2)))) .nil)))) (.cons (.ife (.cmp .eq (.var 2) (.cst (.int 7))) (.cons (.asg (.name 3) (.tup (.cons (.cst (.str "put")) (.cons (.var 3) (.cons (.call 6 (.cons (.var 0) (.cons (.ix (.var 1) (.cst (.int 2))) .nil)) []) (.cons (.call 6 (.cons (.var 0) (.cons (.ix (.var 1) (.cst (.int 3))) .nil)) []) .nil)))))) .nil) .nil) (.cons (.ret (.tup (.cons (.cst (.str "read")) (.cons (.var 3) (.cons (.call 6 (.cons (.var 0) (.cons (.ix (.var 1) (.cst (.int 4))) .nil)) []) .nil))))) .nil))))))))))
/-- _law_of_one: 0 _law_one, 1 _law_other -/
abbrev b9 : Ss := (.cons (.ife (.cmp .eq (.ix (.var 0) (.cst (.int 0))) (.cst (.str "call"))) (.cons (.ret (.and (.cmp .eq (.ix (.var 1) (.cst (.int 0))) (.cst (.str "call"))) (.cmp .eq (.ix (.var 0) (.cst (.int 1))) (.ix (.var 1) (.cst (.int 1)))))) .nil) .nil) (.cons (.ret (.and (.cmp .eq (.ix (.var 0) (.cst (.int 0))) (.cst (.str "read"))) (.and (.cmp .eq (.ix (.var 1) (.cst (.int 0))) (.cst (.str "read"))) (.and (.cmp .eq (.ix (.ix (.var 0) (.cst (.int 1))) (.cst (.int 0))) (.cst (.str "unknown"))) (.cmp .eq (.ix (.var 0) (.cst (.int 1))) (.ix (.var 1) (.cst (.int 1)))))))) .nil))
/-- _law_due: 0 _law_terms, 1 _law_first, 2 _law_term_here, 3 _law_due_here, 4 _law_k, 5 _law_j -/
abbrev b10 : Ss := (.cons (.asg (.name 1) (.lst .nil)) (.cons (.for_ (.name 2) (.seq (.var 0)) (.cons (.ife (.cmp .nin (.var 2) (.var 1)) (.cons (.ex (.met .append (.var 1) (.cons (.var 2) .nil))) .nil) .nil) .nil)) (.cons (.asg (.name 3) (.lst .nil)) (.cons (.for_ (.name 4) (.rng1 (.bfn .len (.cons (.var 1) .nil))) (.cons (.for_ (.name 5) (.rng2 (.bin .add (.var 4) (.cst (.int 1))) (.bfn .len (.cons (.var 1) .nil))) (.cons (.ife (.call 9 (.cons (.ix (.var 1) (.var 4)) (.cons (.ix (.var 1) (.var 5)) .nil)) []) (.cons (.ex (.met .append (.var 3) (.cons (.tup (.cons (.ix (.var 1) (.var 4)) (.cons (.ix (.var 1) (.var 5)) .nil))) .nil))) .nil) .nil) .nil)) .nil)) (.cons (.ret (.var 3)) .nil)))))
/-- law: 0 _law_script, 1 _law_made, 2 _law_cell, 3 _law_xs, 4 _law_handed, 5 _law_told, 6 _law_term_here -/
abbrev b11 : Ss := (.cons (.asg (.name 1) (.lst .nil)) (.cons (.for_ (.name 2) (.seq (.sl (.var 0) .no (.yes (.cst (.int 30))))) (.cons (.asg (.name 3) (.call 4 (.cons (.var 2) (.cons (.cst (.int 5)) .nil)) [])) (.cons (.ife (.and (.cmp .ne (.var 1) (.lst .nil)) (.cmp .eq (.bin .mod (.ix (.var 3) (.cst (.int 0))) (.cst (.int 13))) (.cst (.int 8)))) (.cons (.ex (.met .append (.var 1) (.cons (.ix (.var 1) (.bin .mod (.ix (.var 3) (.cst (.int 1))) (.bfn .len (.cons (.var 1) .nil)))) .nil))) .nil) (.cons (.ex (.met .append (.var 1) (.cons (.call 8 (.cons (.lc (.var 6) (.name 6) (.seq (.sl (.var 1) (.yes (.neg (.cst (.int 4)))) .no)) (.cons (.cmp .lt (.call 5 (.cons (.var 6) .nil) []) (.cst (.int 6))) .nil) [6]) (.cons (.var 3) .nil)) []) .nil))) .nil)) .nil))) (.cons (.asg (.name 4) (.bfn .list (.cons (.var 1) .nil))) (.cons (.asg (.name 5) (.call 2 (.cons (.var 4) .nil) [])) (.cons (.ife (.or (.not (.bfn (.isi .list) (.cons (.var 5) .nil))) (.or (.cmp .ne (.var 5) (.call 10 (.cons (.var 1) .nil) [])) (.cmp .ne (.var 4) (.var 1)))) (.cons (.ret (.cst (.bl false))) .nil) .nil) (.cons (.ex (.met .append (.var 5) (.cons (.tup .nil) .nil))) (.cons (.ret (.cmp .eq (.call 2 (.cons (.var 1) .nil) []) (.call 10 (.cons (.var 1) .nil) []))) .nil)))))))
def tb : Tb := ⟨[⟨1, 1, b0⟩, ⟨2, 2, b1⟩, ⟨1, 7, b2⟩, ⟨2, 2, b3⟩, ⟨2, 5, b4⟩, ⟨1, 2, b5⟩, ⟨2, 4, b6⟩, ⟨2, 4, b7⟩, ⟨2, 4, b8⟩, ⟨2, 2, b9⟩, ⟨1, 6, b10⟩, ⟨1, 7, b11⟩], fun _ => none, fun _ _ => none, fun _ _ => false⟩
theorem run0 {n : Nat} {h : PH} {x0 : D} : (tb.fns (n + 1)).call 0 [x0] h = (evSs (tb.fns n) b0 [some x0] h).fin := rfl
theorem run1 {n : Nat} {h : PH} {x0 x1 : D} : (tb.fns (n + 1)).call 1 [x0, x1] h = (evSs (tb.fns n) b1 [some x0, some x1] h).fin := rfl
theorem run2 {n : Nat} {h : PH} {x0 : D} : (tb.fns (n + 1)).call 2 [x0] h = (evSs (tb.fns n) b2 [some x0, none, none, none, none, none, none] h).fin := rfl
theorem run3 {n : Nat} {h : PH} {x0 x1 : D} : (tb.fns (n + 1)).call 3 [x0, x1] h = (evSs (tb.fns n) b3 [some x0, some x1] h).fin := rfl
theorem run4 {n : Nat} {h : PH} {x0 x1 : D} : (tb.fns (n + 1)).call 4 [x0, x1] h = (evSs (tb.fns n) b4 [some x0, some x1, none, none, none] h).fin := rfl
theorem run5 {n : Nat} {h : PH} {x0 : D} : (tb.fns (n + 1)).call 5 [x0] h = (evSs (tb.fns n) b5 [some x0, none] h).fin := rfl
theorem run6 {n : Nat} {h : PH} {x0 x1 : D} : (tb.fns (n + 1)).call 6 [x0, x1] h = (evSs (tb.fns n) b6 [some x0, some x1, none, none] h).fin := rfl
theorem run7 {n : Nat} {h : PH} {x0 x1 : D} : (tb.fns (n + 1)).call 7 [x0, x1] h = (evSs (tb.fns n) b7 [some x0, some x1, none, none] h).fin := rfl
theorem run8 {n : Nat} {h : PH} {x0 x1 : D} : (tb.fns (n + 1)).call 8 [x0, x1] h = (evSs (tb.fns n) b8 [some x0, some x1, none, none] h).fin := rfl
theorem run9 {n : Nat} {h : PH} {x0 x1 : D} : (tb.fns (n + 1)).call 9 [x0, x1] h = (evSs (tb.fns n) b9 [some x0, some x1] h).fin := rfl
theorem run10 {n : Nat} {h : PH} {x0 : D} : (tb.fns (n + 1)).call 10 [x0] h = (evSs (tb.fns n) b10 [some x0, none, none, none, none, none] h).fin := rfl
theorem run11 {n : Nat} {h : PH} {x0 : D} : (tb.fns (n + 1)).call 11 [x0] h = (evSs (tb.fns n) b11 [some x0, none, none, none, none, none, none] h).fin := rfl
end Q31

set_option Elab.async false
set_option linter.all false
set_option maxRecDepth 100000
set_option maxHeartbeats 1000000
/-! Q31p: the law of pairs of calls, over the interpreter. -/
namespace Q31
open Mp Mp.Wp
open PySem (Str)
local macro_rules | `(tactic| walk_at "wp") => `(tactic| try simp -implicitDefEqProofs only [W_fin, s_nil, s_cons, s_pass, s_retN, s_asgn, s_asg, s_ex, s_ret, s_ife, s_aug, s_for, e_cst, e_var, e_bin, e_neg, e_cmp, e_chain, chain_bl, e_and, e_or, e_not, e_ite, e_tup, e_lst, e_dct0, e_ix, e_sl, o_no, o_yes, es_nil, es_cons, e_call, e_bfn, e_met, i_seq, i_enum, i_zip, i_rng1, i_rng2, t_name, t_tup, t_sub, ts_nil, ts_cons, c_nil, c_one, e_lc, byT_bl, b_add, b_sub, c_lt, c_le, c_gt, c_ge, c_eqI, c_neI, x_tup, x_scr, item_0, item_1, item_2, item_3, item_4, f_lenT, sl_tup, List.getElem?_cons_zero, List.getElem?_cons_succ, List.set_cons_zero, List.set_cons_succ, List.nil_append, List.append_nil, List.cons_append, List.length_nil, List.length_cons])
local macro_rules | `(tactic| walk_at "wq") => `(tactic| try simp -implicitDefEqProofs only [W_fin, s_nil, s_cons, s_pass, s_retN, s_asgn, s_asg, s_ex, s_ret, s_ife, s_aug, s_for, e_cst, e_var, e_bin, e_neg, e_cmp, e_chain, chain_bl, e_and, e_or, e_not, e_ite, e_tup, e_lst, e_dct0, e_ix, e_sl, o_no, o_yes, es_nil, es_cons, e_call, e_bfn, e_met, i_seq, i_enum, i_zip, i_rng1, i_rng2, t_name, t_tup, t_sub, ts_nil, ts_cons, c_nil, c_one, e_lc, byT_bl, b_add, b_sub, c_lt, c_le, c_gt, c_ge, c_eqI, c_neI, x_tup, x_scr, item_0, item_1, item_2, item_3, item_4, f_lenT, sl_tup, List.getElem?_cons_zero, List.getElem?_cons_succ, List.set_cons_zero, List.set_cons_succ, List.nil_append, List.append_nil, List.cons_append, List.length_nil, List.length_cons, mx, Nat.reduceAdd, Nat.reduceLeDiff, Nat.zero_le, true_and])
def fst : D → D
  | .tup (x :: _) => x
  | _ => .non
def snd : D → D
  | .tup (_ :: y :: _) => y
  | _ => .non
/-- a term as the law makes it -/
structure Sh (t : D) : Prop where
  pl : plB 40 t = true
  sh : ∃ w r, t = .tup (.str w :: r) ∧ (w = "call" → ∃ f a, r = [.str f, a]) ∧ (w = "read" → ∃ u s p, r = [.tup (.str u :: s), p])
def isCall (t : D) : Bool := decide (fst t = .str "call") || (decide (fst t = .str "read") && decide (fst (snd t) = .str "unknown"))
def arePair (a b : D) : Bool := !decide (a = b) && (decide (fst a = fst b) && decide (snd a = snd b))
def ofOne (a b : D) : Bool := if fst a = .str "call" then decide (fst b = .str "call") && decide (snd a = snd b) else decide (fst a = .str "read") && (decide (fst b = .str "read") && (decide (fst (snd a) = .str "unknown") && decide (snd a = snd b)))
def stp (p : D → Bool) (acc : List D) (x : D) : List D := if p x = true ∧ x ∉ acc then acc ++ [x] else acc
def dd (p : D → Bool) (xs : List D) : List D := xs.foldl (stp p) []
def prs (r : D → D → Bool) : List D → List D
  | [] => []
  | a :: l => (l.filter (r a)).map (fun b => .tup [a, b]) ++ prs r l
/-! the mathematics -/
theorem fold_filter (p : D → Bool) : ∀ (xs acc : List D), (xs.foldl (stp fun _ => true) acc).filter p = xs.foldl (stp p) (acc.filter p)
  | [], acc => rfl
  | x :: xs, acc => by
    rw [List.foldl_cons, List.foldl_cons, fold_filter p xs]
    congr 1
    unfold stp
    by_cases h : x ∈ acc
    · simp [h]
    · by_cases hp : p x = true
      · simp [h, hp, List.filter_append]
      · simp [h, hp, List.filter_append]
theorem dd_filter (p : D → Bool) (xs : List D) : (dd (fun _ => true) xs).filter p = dd p xs := fold_filter p xs []
theorem dd_snoc (p : D → Bool) (xs : List D) (x : D) : dd p (xs ++ [x]) = stp p (dd p xs) x := by unfold dd; rw [List.foldl_append]; rfl
theorem fold_mem (p : D → Bool) : ∀ (xs acc : List D), ∀ x ∈ xs.foldl (stp p) acc, x ∈ acc ∨ x ∈ xs ∧ p x = true
  | [], acc, x, h => .inl h
  | y :: xs, acc, x, h => by
    rcases fold_mem p xs _ x h with q | q
    · unfold stp at q
      split at q
      · rename_i c
        rcases List.mem_append.mp q with q | q
        · exact .inl q
        · rw [List.mem_singleton.mp q]; exact .inr ⟨List.mem_cons_self, c.1⟩
      · exact .inl q
    · exact .inr ⟨List.mem_cons_of_mem _ q.1, q.2⟩
theorem dd_mem {p : D → Bool} {xs : List D} {x : D} (h : x ∈ dd p xs) : x ∈ xs ∧ p x = true := (fold_mem p xs [] x h).elim (fun z => by simp at z) id
theorem fold_len (p : D → Bool) : ∀ (xs acc : List D), (xs.foldl (stp p) acc).length ≤ acc.length + xs.length
  | [], acc => Nat.le_refl _
  | y :: xs, acc => by
    refine Nat.le_trans (fold_len p xs _) ?_
    unfold stp
    split <;> simp <;> omega
theorem dd_len (p : D → Bool) (xs : List D) : (dd p xs).length ≤ xs.length := by unfold dd; simpa using fold_len p xs []
theorem fold_nodup (p : D → Bool) : ∀ (xs acc : List D), acc.Nodup → (xs.foldl (stp p) acc).Nodup
  | [], acc, h => h
  | y :: xs, acc, h => by
    refine fold_nodup p xs _ ?_
    unfold stp
    split
    · rename_i c
      rw [List.nodup_append]
      exact ⟨h, by simp, fun a ha b hb => by rw [List.mem_singleton.mp hb]; rintro rfl; exact c.2 ha⟩
    · exact h
theorem dd_nodup (p : D → Bool) (xs : List D) : (dd p xs).Nodup := fold_nodup p xs [] List.nodup_nil
theorem prs_filter {r : D → D → Bool} {p : D → Bool} (h1 : ∀ a b, r a b = true → p a = true ∧ p b = true) : ∀ L, prs r L = prs r (L.filter p)
  | [] => rfl
  | a :: l => by
    by_cases hp : p a = true
    · rw [List.filter_cons_of_pos hp]
      show _ ++ prs r l = (((l.filter p).filter (r a)).map _) ++ prs r (l.filter p)
      rw [← prs_filter h1 l, List.filter_filter]
      congr 2
      apply List.filter_congr
      intro b _
      by_cases hr : r a b = true
      · simp [hr, (h1 a b hr).2]
      · simp [hr]
    · rw [List.filter_cons_of_neg hp]
      show _ ++ prs r l = _
      rw [← prs_filter h1 l]
      have : l.filter (r a) = [] := by
        rw [List.filter_eq_nil_iff]
        intro b _ hr
        exact hp (h1 a b hr).1
      rw [this]; rfl
theorem prs_congr {r s : D → D → Bool} : ∀ L : List D, L.Nodup → (∀ a ∈ L, ∀ b ∈ L, a ≠ b → r a b = s a b) → prs r L = prs s L
  | [], _, _ => rfl
  | a :: l, nd, h => by
    have nd' := List.nodup_cons.mp nd
    show _ ++ prs r l = _ ++ prs s l
    rw [prs_congr l nd'.2 fun x hx y hy => h x (List.mem_cons_of_mem _ hx) y (List.mem_cons_of_mem _ hy)]
    congr 2
    apply List.filter_congr
    intro b hb
    exact h a List.mem_cons_self b (List.mem_cons_of_mem _ hb) (by rintro rfl; exact nd'.1 hb)
theorem law_math (ts : List D) : prs ofOne (dd (fun _ => true) ts) = prs arePair (dd isCall ts) := by
  have h1 : ∀ a b, ofOne a b = true → isCall a = true ∧ isCall b = true := by
    intro a b h
    unfold ofOne at h
    split at h
    · rename_i c
      simp only [Bool.and_eq_true, decide_eq_true_eq] at h
      simp [isCall, c, h.1]
    · simp only [Bool.and_eq_true, decide_eq_true_eq] at h
      simp [isCall, h.1, h.2.1, h.2.2.1, ← h.2.2.2]
  rw [prs_filter h1, dd_filter]
  refine prs_congr _ (dd_nodup _ _) fun a ha b hb ne => ?_
  have ca := (dd_mem ha).2
  have cb := (dd_mem hb).2
  unfold isCall at ca cb
  unfold ofOne arePair
  simp only [Bool.or_eq_true, Bool.and_eq_true, decide_eq_true_eq] at ca cb
  rw [decide_eq_false ne]
  have rc : (D.str "read") ≠ D.str "call" := by decide +kernel
  generalize snd a = S at ca ⊢
  generalize snd b = U at cb ⊢
  generalize fst a = A at ca ⊢
  generalize fst b = B at cb ⊢
  by_cases e : S = U
  · subst e
    rcases ca with rfl | ⟨rfl, c1⟩
    · rcases cb with rfl | ⟨rfl, c2⟩
      · simp
      · simp [rc, Ne.symm rc]
    · rcases cb with rfl | ⟨rfl, c2⟩
      · simp [rc, Ne.symm rc]
      · simp [rc, c1]
  · simp [e]
section
variable {P : D → PH → Prop} {X : Nat → PH → Prop} {h : PH} {n : Nat}
theorem pcall : Plain (.str "call") := by show plB 64 _ = true; decide +kernel
theorem pread : Plain (.str "read") := by show plB 64 _ = true; decide +kernel
theorem punk : Plain (.str "unknown") := by show plB 64 _ = true; decide +kernel
theorem Sh.all {t : D} (s : Sh t) {ds : List D} (e : t = .tup ds) : ∀ d ∈ ds, plB 39 d = true := by
  have := s.pl
  rw [e, pl_tup] at this
  exact this.1
theorem is_call {t : D} (s : Sh t) : ((tb.fns (n + 1)).call 0 [t] h).W P X = P (.bl (isCall t)) h := by
  rw [run0]
  obtain ⟨w, r, rfl, h1, h2⟩ := s.sh
  have p1 : Plain (.str w) := pl_of (s.all rfl _ List.mem_cons_self)
  walk_at "wp"
  simp only [c_eqP p1 pcall, c_eqP p1 pread, byT_bl]
  by_cases c1 : w = "call"
  · subst c1; simp [isCall, fst]
  · by_cases c2 : w = "read"
    · subst c2
      obtain ⟨u, s', p, rfl⟩ := h2 rfl
      walk_at "wp"
      have p2 : Plain (.str u) := by
        have := s.all rfl (.tup (.str u :: s')) (by simp)
        rw [pl_tup] at this
        exact pl_of (this.1 _ List.mem_cons_self)
      simp only [c_eqP p2 punk]
      simp [isCall, fst, snd, c1]
    · simp [isCall, fst, c1, c2]
theorem call_two {t : D} (s : Sh t) (c : isCall t = true) : ∃ x y r, t = .tup (x :: y :: r) ∧ Plain x ∧ Plain y := by
  obtain ⟨w, r, rfl, h1, h2⟩ := s.sh
  have al := s.all rfl
  unfold isCall at c
  simp only [Bool.or_eq_true, Bool.and_eq_true, decide_eq_true_eq] at c
  rcases c with c | ⟨c, _⟩
  · have : w = "call" := by simpa [fst] using c
    obtain ⟨f, a, rfl⟩ := h1 this
    exact ⟨_, _, _, rfl, pl_of (al _ (by simp)), pl_of (al _ (by simp))⟩
  · have : w = "read" := by simpa [fst] using c
    obtain ⟨u, s', p, rfl⟩ := h2 this
    exact ⟨_, _, _, rfl, pl_of (al _ (by simp)), pl_of (al _ (by simp))⟩
theorem are_pair {a b : D} (sa : Sh a) (sb : Sh b) (ca : isCall a = true) (cb : isCall b = true) : ((tb.fns (n + 1)).call 1 [a, b] h).W P X = P (.bl (arePair a b)) h := by
  rw [run1]
  have pa := pl_of sa.pl
  have pb := pl_of sb.pl
  obtain ⟨x, y, r, rfl, p1, p2⟩ := call_two sa ca
  obtain ⟨z, w, q, rfl, p3, p4⟩ := call_two sb cb
  walk_at "wp"
  simp only [c_neP pa pb, c_eqP p1 p3, c_eqP p2 p4, byT_bl]
  by_cases c1 : D.tup (x :: y :: r) = .tup (z :: w :: q)
  · rw [c1]; simp [arePair]
  · by_cases c2 : x = z
    · simp only [c1, decide_false, Bool.not_false, if_true, c2, decide_true]
      have c1' := c1
      rw [c2] at c1'
      by_cases c3 : y = w
      · subst c3; simp [arePair, fst, snd, c1', c2]
      · simp [arePair, fst, snd, c3, c1', c2]
    · simp [c1, c2, arePair, fst, snd]
theorem of_one {a b : D} (sa : Sh a) (sb : Sh b) : ((tb.fns (n + 1)).call 9 [a, b] h).W P X = P (.bl (ofOne a b)) h := by
  rw [run9]
  have al := @Sh.all _ sa
  have bl := @Sh.all _ sb
  obtain ⟨w, r, ea, h1, h2⟩ := sa.sh
  obtain ⟨v, q, eb, k1, k2⟩ := sb.sh
  have p1 : Plain (.str w) := pl_of (al ea _ List.mem_cons_self)
  have p2 : Plain (.str v) := pl_of (bl eb _ List.mem_cons_self)
  subst ea eb
  walk_at "wp"
  simp only [c_eqP p1 pcall, c_eqP p1 pread, c_eqP p2 pcall, c_eqP p2 pread, byT_bl]
  by_cases c1 : w = "call"
  · subst c1
    obtain ⟨f, x, rfl⟩ := h1 rfl
    by_cases c2 : v = "call"
    · subst c2
      obtain ⟨g, y, rfl⟩ := k1 rfl
      walk_at "wp"
      have p3 : Plain (.str f) := pl_of (al rfl _ (by simp))
      have p4 : Plain (.str g) := pl_of (bl rfl _ (by simp))
      simp only [c_eqP p3 p4]
      simp [ofOne, fst, snd]
    · simp [ofOne, fst, snd, c2]
  · by_cases c2 : w = "read"
    · subst c2
      obtain ⟨u, s', p, rfl⟩ := h2 rfl
      by_cases c3 : v = "read"
      · subst c3
        obtain ⟨u', s2, p', rfl⟩ := k2 rfl
        walk_at "wp"
        have p3 := al rfl (.tup (.str u :: s')) (by simp)
        have p4 := bl rfl (.tup (.str u' :: s2)) (by simp)
        have p5 : Plain (.str u) := by
          rw [pl_tup] at p3
          exact pl_of (p3.1 _ List.mem_cons_self)
        simp only [c_eqP p5 punk, byT_bl, c_eqP (pl_of p3) (pl_of p4)]
        by_cases c4 : u = "unknown"
        · subst c4; simp [ofOne, fst, snd, c1]
        · simp [ofOne, fst, snd, c1, c4]
      · simp [ofOne, fst, snd, c1, c3]
    · simp [ofOne, fst, snd, c1, c2]
/-! lists of terms -/
theorem prs_drop {r : D → D → Bool} {xs : List D} {k : Nat} {x : D} (e : xs[k]? = some x) : prs r (xs.drop k) = ((xs.drop (k + 1)).filter (r x)).map (fun b => .tup [x, b]) ++ prs r (xs.drop (k + 1)) := by
  obtain ⟨hk, e⟩ := List.getElem?_eq_some_iff.mp e
  rw [List.drop_eq_getElem_cons hk, e]; rfl
theorem sub_get {xs : List D} {k : Nat} {x : D} (e : xs[k]? = some x) : x ∈ xs := List.mem_of_getElem? e
theorem pairs_of {ts : List D} {l : Nat} (hl : h[l]? = some (.lst ts)) (hs : ∀ t ∈ ts, Sh t) (hz : ts.length ≤ 100)
    (k : ∀ l' h', Pre h h' → h'[l']? = some (.lst (prs arePair (dd isCall ts))) → h.length ≤ l' → P (.ref l') h') : ((tb.fns (n + 2)).call 2 [.ref l] h).W P X := by
  have hll := (List.getElem?_eq_some_iff.mp hl).1
  rw [run2]
  walk_at "wp"
  refine ⟨by decide, ?_⟩
  rw [seqW_of (seq_ref (Pre.get (Pre.refl.app _) hl))]
  refine forI_W (fun k ρ h' => ∃ z, ρ = [some (.ref l), some (.ref h.length), z, none, none, none, none] ∧ Pre h h' ∧ h'[h.length]? = some (.lst (dd isCall (ts.take k)))) ts ?_ ⟨none, rfl, Pre.refl.app _, by simp [dd]⟩ ?_
  · intro k x ρ h' e ⟨z, eρ, p1, p2⟩
    subst eρ
    have hx := hs x (sub_get e)
    have kp : ∀ h2, Pre h h2 → kept (h ++ [.lst []]) h2 (locs (.ref l)) = true := fun h2 p => kept_one (by rw [(Pre.refl.app _).get hl, p.get hl])
    have tk : ts.take (k + 1) = ts.take k ++ [x] := by
      rw [List.take_succ, e]; rfl
    rw [turn_W]
    walk_at "wp"
    rw [is_call hx]
    walk_at "wp"
    rw [c_nin (memD_lst hx.pl p2 (n := 40) fun y hy => (hs y (List.mem_of_mem_take (dd_mem hy).1)).pl)]
    walk_at "wp"
    rw [tk, dd_snoc]
    by_cases c1 : isCall x = true
    · by_cases c2 : x ∈ dd isCall (ts.take k)
      · simp only [c1, c2, decide_true, Bool.not_true, if_true, Bool.false_eq_true, if_false]
        exact ⟨kp _ p1, _, rfl, p1, by rw [p2]; simp [stp, c1, c2]⟩
      · simp only [c1, c2, decide_false, Bool.not_false, if_true]
        simp only [m_app p2]
        walk_at "wp"
        rw [m_append p2]
        have := dd_len isCall (ts.take k)
        refine ⟨by simp at this; simp [mx]; omega, kp _ (p1.set (Nat.le_refl _) _), _, rfl, p1.set (Nat.le_refl _) _, by rw [get_set p2]; simp [stp, c1, c2]⟩
    · simp only [c1, Bool.false_eq_true, if_false]
      exact ⟨kp _ p1, _, rfl, p1, by rw [p2]; simp [stp, c1]⟩
  · intro ρ h1 ⟨z, eρ, p1, p2⟩
    subst eρ
    rw [List.take_length] at p2
    walk_at "wp"
    refine ⟨by decide, ?_⟩
    have p3 : Pre h (h1 ++ [.lst []]) := p1.app _
    have p4 : (h1 ++ [.lst []])[h.length]? = some (.lst (dd isCall ts)) := (Pre.refl.app _).get p2
    have hcl : ∀ y ∈ dd isCall ts, Sh y ∧ isCall y = true := fun y hy => ⟨hs y (dd_mem hy).1, (dd_mem hy).2⟩
    have hcn : (dd isCall ts).length ≤ 100 := Nat.le_trans (dd_len _ _) hz
    generalize hcs : dd isCall ts = cs at *
    simp only [lst_ref p4]
    refine forE_W (fun k ρ h' => ∃ z1 z2 z3 acc, ρ = [some (.ref l), some (.ref h.length), z, some (.ref h1.length), z1, z2, z3] ∧ Pre h1 h' ∧ h'[h1.length]? = some (.lst acc) ∧ acc ++ prs arePair (cs.drop k) = prs arePair cs ∧ acc.length ≤ 100 * k) cs ?_ ⟨none, none, none, [], rfl, Pre.refl.app _, by simp, by simp, by simp⟩ ?_
    · intro k x ρ h' e ⟨z1, z2, z3, acc, eρ, q1, q2, q3, q4⟩
      subst eρ
      have kp : ∀ h2, Pre h1 h2 → kept (h1 ++ [.lst []]) h2 (locs (.ref h.length)) = true := fun h2 p => kept_one (by rw [p4, p.get p2])
      have hk := (List.getElem?_eq_some_iff.mp e).1
      rw [turn_W]
      simp only [t_tup, show seqOf h' (.tup [.int (k : Int), x]) = some [.int (k : Int), x] from rfl]
      walk_at "wp"
      have q5 : h'[h.length]? = some (.lst cs) := q1.get p2
      have ek : (k : Int) + 1 = ((k + 1 : Nat) : Int) := by omega
      rw [sl_lst (lst_ref q5), ek, cut_from, seqW_of (seq_ref get_new)]
      refine forI_W (fun j ρ h2 => ∃ z3 acc', ρ = [some (.ref l), some (.ref h.length), z, some (.ref h1.length), some (.int k), some x, z3] ∧ Pre h1 h2 ∧ h2[h'.length]? = some (.lst (cs.drop (k + 1))) ∧ h2[h1.length]? = some (.lst acc') ∧
          acc' = acc ++ (((cs.drop (k + 1)).take j).filter (arePair x)).map (fun b => .tup [x, b])) (cs.drop (k + 1)) ?_ ⟨z3, acc, rfl, q1.app _, by simp, (Pre.refl.app _).get q2, by simp⟩ ?_
      · intro j y ρ h2 ey ⟨z3, acc', eρ, r1, r0, r2, r3⟩
        subst eρ
        have hx := hcl x (sub_get e)
        have hy := hcl y (List.mem_of_mem_drop (sub_get ey))
        have kp2 : ∀ h3 : PH, h3[h'.length]? = some (.lst (cs.drop (k + 1))) → kept (h' ++ [.lst (cs.drop (k + 1))]) h3 (locs (.ref h'.length)) = true := fun h3 e3 => kept_one (by rw [get_new, e3])
        have tk : (cs.drop (k + 1)).take (j + 1) = (cs.drop (k + 1)).take j ++ [y] := by rw [List.take_succ, ey]; rfl
        have ne : h'.length ≠ h1.length := by
          have := (List.getElem?_eq_some_iff.mp q2).1
          omega
        rw [turn_W]
        walk_at "wp"
        rw [are_pair hx.1 hy.1 hx.2 hy.2]
        walk_at "wp"
        by_cases c : arePair x y = true
        · simp only [c, if_true]
          simp only [m_app r2]
          walk_at "wp"
          rw [m_append r2]
          have hlen : acc'.length < mx := by
            have := List.length_filter_le (arePair x) ((cs.drop (k + 1)).take j)
            have l2 : ((cs.drop (k + 1)).take j).length ≤ 100 := by simp; omega
            rw [r3]; simp [mx]; omega
          refine ⟨by decide, hlen, kp2 _ ?_, _, acc' ++ [.tup [x, y]], rfl, r1.set (Nat.le_refl _) _, ?_, get_set r2, ?_⟩
          · rw [List.getElem?_set_ne (Ne.symm ne)]; exact r0
          · rw [List.getElem?_set_ne (Ne.symm ne)]; exact r0
          · rw [tk, r3]; simp [c]
        · simp only [c, Bool.false_eq_true, if_false]
          exact ⟨kp2 _ r0, _, acc', rfl, r1, r0, r2, by rw [tk, r3]; simp [c]⟩
      · intro ρ h2 ⟨z3, acc', eρ, r1, r0, r2, r3⟩
        subst eρ
        rw [List.take_length] at r3
        refine ⟨kp _ r1, _, _, _, acc', rfl, r1, r2, ?_, ?_⟩
        · rw [← q3, prs_drop e, r3, List.append_assoc]
        · have := List.length_filter_le (arePair x) (cs.drop (k + 1))
          have l2 : (cs.drop (k + 1)).length ≤ 100 := by simp; omega
          rw [r3]; simp; omega
    · intro ρ h' ⟨z1, z2, z3, acc, eρ, q1, q2, q3, q4⟩
      subst eρ
      walk_at "wp"
      rw [List.drop_length] at q3
      have q3' : acc = prs arePair cs := by simpa [prs] using q3
      exact k _ _ (p1.trans q1) (by rw [q2, q3']) p1.len
theorem due {ts : List D} {l : Nat} (hl : h[l]? = some (.lst ts)) (hs : ∀ t ∈ ts, Sh t) (hz : ts.length ≤ 100)
    (k : ∀ l' h', Pre h h' → h'[l']? = some (.lst (prs ofOne (dd (fun _ => true) ts))) → h.length ≤ l' → P (.ref l') h') : ((tb.fns (n + 2)).call 10 [.ref l] h).W P X := by
  have hll := (List.getElem?_eq_some_iff.mp hl).1
  rw [run10]
  walk_at "wp"
  refine ⟨by decide, ?_⟩
  rw [seqW_of (seq_ref (Pre.get (Pre.refl.app _) hl))]
  refine forI_W (fun k ρ h' => ∃ z, ρ = [some (.ref l), some (.ref h.length), z, none, none, none] ∧ Pre h h' ∧ h'[h.length]? = some (.lst (dd (fun _ => true) (ts.take k)))) ts ?_ ⟨none, rfl, Pre.refl.app _, by simp [dd]⟩ ?_
  · intro k x ρ h' e ⟨z, eρ, p1, p2⟩
    subst eρ
    have hx := hs x (sub_get e)
    have kp : ∀ h2, Pre h h2 → kept (h ++ [.lst []]) h2 (locs (.ref l)) = true := fun h2 p => kept_one (by rw [(Pre.refl.app _).get hl, p.get hl])
    have tk : ts.take (k + 1) = ts.take k ++ [x] := by
      rw [List.take_succ, e]; rfl
    rw [turn_W]
    walk_at "wp"
    rw [c_nin (memD_lst hx.pl p2 (n := 40) fun y hy => (hs y (List.mem_of_mem_take (dd_mem hy).1)).pl)]
    walk_at "wp"
    rw [tk, dd_snoc]
    by_cases c2 : x ∈ dd (fun _ => true) (ts.take k)
    · simp only [c2, decide_true, Bool.not_true, Bool.false_eq_true, if_false]
      exact ⟨kp _ p1, _, rfl, p1, by rw [p2]; simp [stp, c2]⟩
    · simp only [c2, decide_false, Bool.not_false, if_true]
      simp only [m_app p2]
      walk_at "wp"
      rw [m_append p2]
      have := dd_len (fun _ => true) (ts.take k)
      refine ⟨by simp at this; simp [mx]; omega, kp _ (p1.set (Nat.le_refl _) _), _, rfl, p1.set (Nat.le_refl _) _, by rw [get_set p2]; simp [stp, c2]⟩
  · intro ρ h1 ⟨z, eρ, p1, p2⟩
    subst eρ
    rw [List.take_length] at p2
    walk_at "wp"
    refine ⟨by decide, ?_⟩
    have p3 : Pre h (h1 ++ [.lst []]) := p1.app _
    have p4 : (h1 ++ [.lst []])[h.length]? = some (.lst (dd (fun _ => true) ts)) := (Pre.refl.app _).get p2
    have hcl : ∀ y ∈ dd (fun _ => true) ts, Sh y := fun y hy => hs y (dd_mem hy).1
    have hcn : (dd (fun _ => true) ts).length ≤ 100 := Nat.le_trans (dd_len _ _) hz
    generalize hcs : dd (fun _ => true) ts = cs at *
    simp only [f_lenL p4]
    rw [rngW_ok (by decide) (by decide) (by omega) (by omega)]
    have e0 : ((cs.length : Int) - 0).toNat = cs.length := by omega
    rw [e0]
    refine forR_W (fun k ρ h' => ∃ z1 z2 acc, ρ = [some (.ref l), some (.ref h.length), z, some (.ref h1.length), z1, z2] ∧ Pre h1 h' ∧ h'[h1.length]? = some (.lst acc) ∧ acc ++ prs ofOne (cs.drop k) = prs ofOne cs ∧ acc.length ≤ 100 * k) 0 cs.length ?_ ⟨none, none, [], rfl, Pre.refl.app _, by simp, by simp, by simp⟩ ?_
    · intro k ρ h' hk ⟨z1, z2, acc, eρ, q1, q2, q3, q4⟩
      subst eρ
      have e : cs[k]? = some cs[k] := by simp [hk]
      generalize cs[k] = x at e
      rw [turn_W]
      have q5 : h'[h.length]? = some (.lst cs) := q1.get p2
      have ek : (0 : Int) + (k : Int) = (k : Int) := by omega
      rw [ek]
      walk_at "wp"
      simp only [f_lenL q5]
      rw [rngW_ok (by omega) (by omega) (by omega) (by omega)]
      have e1 : ((cs.length : Int) - ((k : Int) + 1)).toNat = cs.length - (k + 1) := by omega
      rw [e1]
      refine forR_W (fun j ρ h2 => ∃ z2 acc', ρ = [some (.ref l), some (.ref h.length), z, some (.ref h1.length), some (.int k), z2] ∧ Pre h1 h2 ∧ h2[h1.length]? = some (.lst acc') ∧
          acc' = acc ++ (((cs.drop (k + 1)).take j).filter (ofOne x)).map (fun b => .tup [x, b])) ((k : Int) + 1) (cs.length - (k + 1)) ?_ ⟨z2, acc, rfl, q1, q2, by simp⟩ ?_
      · intro j ρ h2 hj ⟨z2, acc', eρ, r1, r2, r3⟩
        subst eρ
        have ey : (cs.drop (k + 1))[j]? = some cs[k + 1 + j] := by rw [List.getElem?_drop]; simp
        have ey2 : cs[k + 1 + j]? = some cs[k + 1 + j] := by simp
        generalize hy' : cs[k + 1 + j] = y at ey ey2
        have hx := hcl x (sub_get e)
        have hy := hcl y (sub_get ey2)
        have tk : (cs.drop (k + 1)).take (j + 1) = (cs.drop (k + 1)).take j ++ [y] := by rw [List.take_succ, ey]; rfl
        have r5 : h2[h.length]? = some (.lst cs) := r1.get p2
        have ej : (k : Int) + 1 + (j : Int) = ((k + 1 + j : Nat) : Int) := by omega
        have i1 : item cs (k : Int) = some x := by rw [item_nat hk]; rw [← e]; simp [hk]
        have i2 : item cs ((k + 1 + j : Nat) : Int) = some y := by rw [item_nat (by omega), hy']
        rw [turn_W]
        rw [ej]
        walk_at "wp"
        simp only [x_ref r5, i1, i2]
        rw [of_one hx hy]
        walk_at "wp"
        by_cases c : ofOne x y = true
        · simp only [c, if_true]
          simp only [m_app r2]
          walk_at "wp"
          simp only [x_ref r5, i1, i2]
          rw [m_append r2]
          have hlen : acc'.length < mx := by
            have := List.length_filter_le (ofOne x) ((cs.drop (k + 1)).take j)
            have l2 : ((cs.drop (k + 1)).take j).length ≤ 100 := by simp; omega
            rw [r3]; simp [mx]; omega
          refine ⟨by decide, hlen, kept_nil, _, acc' ++ [.tup [x, y]], rfl, r1.set (Nat.le_refl _) _, get_set r2, ?_⟩
          rw [tk, r3]; simp [c]
        · simp only [c, Bool.false_eq_true, if_false]
          exact ⟨kept_nil, _, acc', rfl, r1, r2, by rw [tk, r3]; simp [c]⟩
      · intro ρ h2 ⟨z3, acc', eρ, r1, r2, r3⟩
        subst eρ
        have tk : (cs.drop (k + 1)).take (cs.length - (k + 1)) = cs.drop (k + 1) := List.take_of_length_le (by simp)
        rw [tk] at r3
        refine ⟨kept_nil, _, _, acc', rfl, r1, r2, ?_, ?_⟩
        · rw [← q3, prs_drop e, r3, List.append_assoc]
        · have := List.length_filter_le (ofOne x) (cs.drop (k + 1))
          have l2 : (cs.drop (k + 1)).length ≤ 100 := by simp; omega
          rw [r3]; simp; omega
    · intro ρ h' ⟨z1, z2, acc, eρ, q1, q2, q3, q4⟩
      subst eρ
      walk_at "wp"
      rw [List.drop_length] at q3
      have q3' : acc = prs ofOne cs := by simpa [prs] using q3
      exact k _ _ (p1.trans q1) (by rw [q2, q3']) p1.len
/-! what the law makes -/
theorem stream {c : Int} (k : ∀ (is : List Int) l h', is.length = 5 → (∀ i ∈ is, 0 ≤ i) → Pre h h' → h'[l]? = some (.lst (is.map D.int)) → h.length ≤ l → P (.ref l) h') : ((tb.fns (n + 1)).call 4 [.int c, .int 5] h).W P X :=
  stream_W (m := 5) (by decide) k
def isTup : D → Bool
  | .tup _ => true
  | _ => false
def dep : Nat → D → Int
  | m + 1, .tup ds => 1 + mxd 0 ((ds.filter isTup).map (dep m))
  | _, _ => 1
theorem mxd_nonneg : ∀ (is : List Int), (∀ i ∈ is, 0 ≤ i) → 0 ≤ mxd 0 is
  | [], _ => Int.le_refl _
  | i :: r, h => Int.le_trans (h i List.mem_cons_self) (mxd_ge (i :: r) 0 i List.mem_cons_self)
theorem dep_pos : ∀ (m : Nat) (t : D), 1 ≤ dep m t
  | 0, t => Int.le_refl _
  | m + 1, .tup ds => by
    show 1 ≤ 1 + mxd 0 ((ds.filter isTup).map (dep m))
    have := mxd_nonneg ((ds.filter isTup).map (dep m)) (fun i hi => by
      obtain ⟨x, _, rfl⟩ := List.mem_map.mp hi
      have := dep_pos m x
      omega)
    omega
  | _ + 1, .non => Int.le_refl _
  | _ + 1, .bl _ => Int.le_refl _
  | _ + 1, .int _ => Int.le_refl _
  | _ + 1, .str _ => Int.le_refl _
  | _ + 1, .ref _ => Int.le_refl _
  | _ + 1, .fn _ => Int.le_refl _
  | _ + 1, .exn _ => Int.le_refl _
  | _ + 1, .lst _ => Int.le_refl _
  | _ + 1, .scr _ => Int.le_refl _
theorem dep_pl : ∀ (m : Nat) (t : D), plB m t = true → ∀ k : Nat, dep m t ≤ k → plB k t = true
  | 0, t, h, k, l => plB_mono h (Nat.zero_le _)
  | m + 1, .tup ds, h, k, l => by
    have h' := pl_tup.mp h
    have l' : 1 + mxd 0 ((ds.filter isTup).map (dep m)) ≤ k := l
    have h0 := mxd_nonneg ((ds.filter isTup).map (dep m)) (fun i hi => by
      obtain ⟨x, _, rfl⟩ := List.mem_map.mp hi
      have := dep_pos m x
      omega)
    cases k with
    | zero => omega
    | succ k =>
      refine pl_tup.mpr ⟨fun d hd => ?_, h'.2⟩
      by_cases ht : isTup d = true
      · refine dep_pl m d (h'.1 d hd) k ?_
        have := mxd_ge ((ds.filter isTup).map (dep m)) 0 (dep m d) (List.mem_map.mpr ⟨d, List.mem_filter.mpr ⟨hd, ht⟩, rfl⟩)
        omega
      · have := h'.1 d hd
        cases d with
        | tup _ => exact absurd rfl ht
        | non => cases k <;> rfl
        | int i => exact pl_int
        | str x => rw [pl_str] at this ⊢; exact this
        | bl _ => cases m <;> cases this
        | ref _ => cases m <;> cases this
        | fn _ => cases m <;> cases this
        | exn _ => cases m <;> cases this
        | lst _ => cases m <;> cases this
        | scr _ => cases m <;> cases this
  | _ + 1, .non, h, k, l => by cases k <;> rfl
  | _ + 1, .int _, h, k, l => pl_int
  | _ + 1, .str _, h, k, l => by rw [pl_str] at h ⊢; exact h
  | _ + 1, .bl _, h, k, l => nomatch h
  | _ + 1, .ref _, h, k, l => nomatch h
  | _ + 1, .fn _, h, k, l => nomatch h
  | _ + 1, .exn _, h, k, l => nomatch h
  | _ + 1, .lst _, h, k, l => nomatch h
  | _ + 1, .scr _, h, k, l => nomatch h
theorem isTup_pl {m : Nat} {x : D} (h' : PH) (p : plB m x = true) : isTy h' x .tuple = some (isTup x) := by
  cases x with
  | tup _ => rfl
  | non => rfl
  | int i => rfl
  | str x => rfl
  | bl _ => cases m <;> cases p
  | ref _ => cases m <;> cases p
  | fn _ => cases m <;> cases p
  | exn _ => cases m <;> cases p
  | lst _ => cases m <;> cases p
  | scr _ => cases m <;> cases p
theorem depth : ∀ (m : Nat) (t : D) (n : Nat) (h : PH) (P : D → PH → Prop) (X : Nat → PH → Prop), plB m t = true → isTup t = true → m ≤ n →
    (∀ h', Pre h h' → P (.int (dep m t)) h') → ((tb.fns n).call 5 [t] h).W P X
  | 0, .tup ds, n, h, P, X, hp, e, hn, k => nomatch hp
  | m + 1, t, 0, h, P, X, hp, e, hn, k => by omega
  | m + 1, .tup ds, n + 1, h, P, X, hp, e, hn, k => by
    have hp' := pl_tup.mp hp
    rw [run5]
    walk_at "wp"
    rw [seqW_of (show seqOf h (.tup ds) = some ds from rfl)]
    have ef : ds.filterMap (fun x => if isTup x = true then some (D.int (dep m x)) else none) = ((ds.filter isTup).map (dep m)).map D.int := by
      clear hp hp' k e
      induction ds with
      | nil => rfl
      | cons d ds ih =>
        by_cases c : isTup d = true
        · rw [List.filterMap_cons_some (by rw [if_pos c]), ih, List.filter_cons_of_pos c]; rfl
        · rw [List.filterMap_cons_none (by rw [if_neg c]), ih, List.filter_cons_of_neg c]
    refine lcS_W (fun x => if isTup x = true then some (D.int (dep m x)) else none) (Pre h) ds [] h (fun x hx h' p => ?_) Pre.refl (by simp [mx]; omega) fun h' p => ?_
    · rw [lturn_W]
      walk_at "wp"
      simp only [wipeE]
      walk_at "wp"
      rw [f_isi (isTup_pl h' (hp'.1 x hx)), byT_bl]
      by_cases c : isTup x = true
      · simp only [c, if_true]
        refine depth m x n h' _ _ (hp'.1 x hx) c (by omega) fun h2 p2 => ⟨rfl, kept_nil, p.trans p2⟩
      · simp only [c, Bool.false_eq_true, if_false]
        exact ⟨trivial, kept_nil, p⟩
    · rw [List.nil_append, ef]
      rw [f_maxd (lst_ref get_new)]
      exact k _ (p.app _)
structure Sm (t : D) : Prop where
  sh : Sh t
  p5 : plB 5 t = true
theorem Sm.mk' {w : Str} {r : List D} (p : plB 5 (.tup (.str w :: r)) = true) (h1 : w = "call" → ∃ f a, r = [.str f, a]) (h2 : w = "read" → ∃ u s p, r = [.tup (.str u :: s), p]) : Sm (.tup (.str w :: r)) :=
  ⟨⟨plB_mono p (by decide), w, r, rfl, h1, h2⟩, p⟩
theorem sm_unk {x : Str} (hx : PySem.PyData.strOk x = true) : Sm (.tup [.str "unknown", .str x]) := by
  refine Sm.mk' (pl_tup.mpr ⟨?_, by simp⟩) (fun e => absurd e (by decide +kernel)) fun e => absurd e (by decide +kernel)
  intro d hd
  simp only [List.mem_cons, List.not_mem_nil, or_false] at hd
  rcases hd with rfl | rfl
  · decide +kernel
  · rw [pl_str]; exact hx
theorem sm_num {i : Int} : Sm (.tup [.str "number", .tup [.int i, .int 1]]) := by
  refine Sm.mk' (pl_tup.mpr ⟨?_, by simp⟩) (fun e => absurd e (by decide +kernel)) fun e => absurd e (by decide +kernel)
  intro d hd
  simp only [List.mem_cons, List.not_mem_nil, or_false] at hd
  rcases hd with rfl | rfl
  · decide +kernel
  · refine pl_tup.mpr ⟨?_, by simp⟩
    intro d hd
    simp only [List.mem_cons, List.not_mem_nil, or_false] at hd
    rcases hd with rfl | rfl <;> exact pl_int
theorem pick {ys : List D} {l : Nat} {i : Int} (e : h[l]? = some (.lst ys)) (hy : ∀ y ∈ ys, Sm y) (h0 : 0 < ys.length) (k : ∀ t, Sm t → P t h) : (ixop (.ref l) (.int (i % (ys.length : Int))) h).W P X := by
  obtain ⟨d, e1, e2, _⟩ := item_int (xs := ys) (i := i % (ys.length : Int)) (Int.emod_nonneg _ (by omega)) (Int.emod_lt_of_pos _ (by omega))
  rw [x_ref e, e1]
  exact k d (hy d e2)
theorem num {ts : List D} {l : Nat} {i : Int} (hl : h[l]? = some (.lst ts)) (hs : ∀ t ∈ ts, Sm t) (hz : ts.length ≤ 100) (k : ∀ t h', Sm t → Pre h h' → P t h') : ((tb.fns (n + 1)).call 6 [.ref l, .int i] h).W P X := by
  rw [run6]
  walk_at "wp"
  rw [seqW_of (seq_ref hl)]
  refine lcS_any Sm (fun h' => Pre h h') ts [] h (fun x hx h' p => ?_) Pre.refl (by simp [mx]; omega) (fun d hd => by simp at hd) fun ys h2 p2 q2 l2 => ?_
  · have sx := hs x hx
    have kp : kept h h' (locs (.ref l)) = true := kept_one (by rw [hl, p.get hl])
    obtain ⟨w, r, ex, h1, h2⟩ := sx.sh.sh
    have al := pl_tup.mp (ex ▸ sx.p5)
    subst ex
    rw [lturn_W]
    walk_at "wq"
    simp only [wipeE]
    walk_at "wq"
    have pc : Plain (.tup (cut (.str w :: r) none (some 2))) := pl_of (n := 5) (pl_tup.mpr ⟨fun d hd => al.1 d (cut_sub d hd), Nat.le_trans cut_len al.2⟩)
    rw [c_in (memD_tup (n := 5) (plB_mono (al.1 _ List.mem_cons_self) (by decide)) (by intro y hy; simp only [List.mem_cons, List.not_mem_nil, or_false] at hy; rcases hy with rfl | rfl | rfl <;> decide +kernel))]
    walk_at "wq"
    rw [c_eqP pc (show plB 64 _ = true by decide +kernel)]
    walk_at "wq"
    have fin1 : (∀ d, some (D.tup (.str w :: r)) = some d → Sm d) ∧ kept h h' (locs (.ref l)) = true ∧ Pre h h' := ⟨fun d e => by cases e; exact sx, kp, p⟩
    have fin2 : (∀ d, (none : Option D) = some d → Sm d) ∧ kept h h' (locs (.ref l)) = true ∧ Pre h h' := ⟨fun d e => (by cases e), kp, p⟩
    split
    · exact fin1
    · split
      · exact fin1
      · exact fin2
  · walk_at "wq"
    have g1 : (h2 ++ [O.lst ys] ++ [O.lst [D.tup [.str "unknown", .str "x"], .tup [.str "unknown", .str "y"]]])[h2.length]? = some (.lst ys) := (Pre.refl.app _).get get_new
    rw [b_addL g1 get_new]
    simp at l2
    refine ⟨by simp [mx]; omega, ?_⟩
    rw [b_mod (by decide)]
    walk_at "wq"
    have qa : ∀ y ∈ ys ++ [D.tup [.str "unknown", .str "x"], .tup [.str "unknown", .str "y"]], Sm y := fun y hy => by
      rcases List.mem_append.mp hy with hy | hy
      · exact q2 y hy
      · simp only [List.mem_cons, List.not_mem_nil, or_false] at hy
        rcases hy with rfl | rfl <;> exact sm_unk (by decide +kernel)
    split
    · rw [b_fdivS (by decide) (by decide), pw106, b_mod (by decide)]
      exact k _ _ sm_num (((p2.app _).app _).app _)
    · rw [b_fdivS (by decide) (by decide)]
      rw [f_lenL get_new]
      rw [b_mod (by simp; omega)]
      exact pick get_new qa (by simp) fun t ht => k t _ ht (((p2.app _).app _).app _)
theorem thing {ts : List D} {l : Nat} {i : Int} (hl : h[l]? = some (.lst ts)) (hs : ∀ t ∈ ts, Sm t) (hz : ts.length ≤ 100) (k : ∀ t h', Sm t → Pre h h' → P t h') : ((tb.fns (n + 1)).call 7 [.ref l, .int i] h).W P X := by
  rw [run7]
  walk_at "wp"
  rw [seqW_of (seq_ref hl)]
  refine lcS_any Sm (fun h' => Pre h h') ts [] h (fun x hx h' p => ?_) Pre.refl (by simp [mx]; omega) (fun d hd => by simp at hd) fun ys h2 p2 q2 l2 => ?_
  · have sx := hs x hx
    have kp : kept h h' (locs (.ref l)) = true := kept_one (by rw [hl, p.get hl])
    obtain ⟨w, r, ex, h1, h2⟩ := sx.sh.sh
    have al := pl_tup.mp (ex ▸ sx.p5)
    subst ex
    rw [lturn_W]
    walk_at "wq"
    simp only [wipeE]
    walk_at "wq"
    have pc : plB 5 (.tup (cut (.str w :: r) none (some 2))) = true := pl_tup.mpr ⟨fun d hd => al.1 d (cut_sub d hd), Nat.le_trans cut_len al.2⟩
    rw [c_in (memD_tup (n := 5) pc (by intro y hy; simp only [List.mem_cons, List.not_mem_nil, or_false] at hy; rcases hy with rfl | rfl <;> decide +kernel))]
    walk_at "wq"
    have fin1 : (∀ d, some (D.tup (.str w :: r)) = some d → Sm d) ∧ kept h h' (locs (.ref l)) = true ∧ Pre h h' := ⟨fun d e => by cases e; exact sx, kp, p⟩
    have fin2 : (∀ d, (none : Option D) = some d → Sm d) ∧ kept h h' (locs (.ref l)) = true ∧ Pre h h' := ⟨fun d e => (by cases e), kp, p⟩
    split
    · exact fin1
    · exact fin2
  · walk_at "wq"
    have g1 : (h2 ++ [O.lst ys] ++ [O.lst [D.tup [.str "unknown", .str "a"], .tup [.str "unknown", .str "b"], .tup [.str "unknown", .str "c"]]])[h2.length]? = some (.lst ys) := (Pre.refl.app _).get get_new
    rw [b_addL g1 get_new]
    simp at l2
    refine ⟨by simp [mx]; omega, ?_⟩
    rw [f_lenL get_new]
    rw [b_mod (by simp; omega)]
    have qa : ∀ y ∈ ys ++ [D.tup [.str "unknown", .str "a"], .tup [.str "unknown", .str "b"], .tup [.str "unknown", .str "c"]], Sm y := fun y hy => by
      rcases List.mem_append.mp hy with hy | hy
      · exact q2 y hy
      · simp only [List.mem_cons, List.not_mem_nil, or_false] at hy
        rcases hy with rfl | rfl | rfl <;> exact sm_unk (by decide +kernel)
    exact pick get_new qa (by simp) fun t ht => k t _ ht (((p2.app _).app _).app _)
theorem sh_mk {w : Str} {r : List D} {m : Nat} (hw : PySem.PyData.strOk w = true) (hr : ∀ d ∈ r, plB m d = true) (hl : r.length ≤ 10) (hm : m ≤ 39) (h1 : w = "call" → ∃ f a, r = [.str f, a]) (h2 : w = "read" → ∃ u s p, r = [.tup (.str u :: s), p]) : Sh (.tup (.str w :: r)) := by
  refine ⟨plB_mono (n := m + 1) (pl_tup.mpr ⟨fun d hd => ?_, by simp; omega⟩) (by omega), w, r, rfl, h1, h2⟩
  rcases List.mem_cons.mp hd with rfl | hd
  · rw [pl_str]; exact hw
  · exact hr d hd
theorem pl_tups {ds : List D} {m : Nat} (hs : ∀ d ∈ ds, plB m d = true) (hl : ds.length ≤ 10) : plB (m + 1) (.tup ds) = true := pl_tup.mpr ⟨hs, by omega⟩
theorem sh_plus {a b : D} (ha : Sm a) (hb : Sm b) : Sh (.tup [.str "plus", .tup [a, b]]) :=
  sh_mk (m := 6) (by decide +kernel) (fun d hd => by
    rw [List.mem_singleton.mp hd]
    exact pl_tups (fun d hd => by simp only [List.mem_cons, List.not_mem_nil, or_false] at hd; rcases hd with rfl | rfl <;> first | exact ha.p5 | exact hb.p5) (by simp)) (by simp) (by decide) (fun e => absurd e (by decide +kernel)) fun e => absurd e (by decide +kernel)
theorem sh_call {f : Str} {as : List D} (hf : PySem.PyData.strOk f = true) (ha : ∀ a ∈ as, Sm a) (hl : as.length ≤ 10) : Sh (.tup [.str "call", .str f, .tup as]) :=
  sh_mk (m := 6) (by decide +kernel) (fun d hd => by
    simp only [List.mem_cons, List.not_mem_nil, or_false] at hd
    rcases hd with rfl | rfl
    · rw [pl_str]; exact hf
    · exact pl_tups (fun d hd => (ha d hd).p5) hl) (by simp) (by decide) (fun _ => ⟨f, _, rfl⟩) fun e => absurd e (by decide +kernel)
theorem sh_read {u : Str} {s : List D} {p : D} (ha : plB 6 (.tup (.str u :: s)) = true) (hp : Sm p) : Sh (.tup [.str "read", .tup (.str u :: s), p]) :=
  sh_mk (m := 6) (by decide +kernel) (fun d hd => by
    simp only [List.mem_cons, List.not_mem_nil, or_false] at hd
    rcases hd with rfl | rfl
    · exact ha
    · exact plB_mono hp.p5 (by decide)) (by simp) (by decide) (fun e => absurd e (by decide +kernel)) fun _ => ⟨u, s, p, rfl⟩
/-- a text out of a written list -/
theorem pickS {ys : List D} {l : Nat} {i m : Int} (e : h[l]? = some (.lst ys)) (hy : ∀ y ∈ ys, ∃ x, y = .str x ∧ PySem.PyData.strOk x = true) (hm : m = ys.length) (h0 : 0 < m) (k : ∀ x, PySem.PyData.strOk x = true → P (.str x) h) : (ixop (.ref l) (.int (i % m)) h).W P X := by
  subst hm
  obtain ⟨d, e1, e2, _⟩ := item_int (xs := ys) (i := i % (ys.length : Int)) (Int.emod_nonneg _ (by omega)) (Int.emod_lt_of_pos _ h0)
  obtain ⟨x, rfl, hx⟩ := hy d e2
  rw [x_ref e, e1]
  exact k x hx
theorem term {ts is : List _} {l m : Nat} (hl : h[l]? = some (.lst ts)) (hs : ∀ t ∈ ts, Sm t) (hz : ts.length ≤ 100) (hm : h[m]? = some (.lst (is.map D.int))) (hi : is.length = 5)
    (k : ∀ t h', Sh t → Pre h h' → P t h') : ((tb.fns (n + 2)).call 8 [.ref l, .ref m] h).W P X := by
  match is, hi with
  | [a0, a1, a2, a3, a4], _ =>
  simp only [List.map_cons, List.map_nil] at hm
  rw [run8]
  walk_at "wq"
  rw [x_ref hm]
  walk_at "wq"
  rw [b_mod (by decide)]
  walk_at "wq"
  have gx : ∀ {h' : PH}, Pre h h' → h'[m]? = some (.lst [D.int a0, .int a1, .int a2, .int a3, .int a4]) := fun p => p.get hm
  split
  · rw [x_ref hm]
    walk_at "wq"
    rw [pw106, b_mod (by decide)]
    exact k _ _ sm_num.sh Pre.refl
  · split
    · rw [x_ref (gx (Pre.refl.app _))]
      walk_at "wq"
      rw [b_mod (by decide)]
      refine pickS get_new (by intro y hy; simp only [List.mem_cons, List.not_mem_nil, or_false] at hy; rcases hy with rfl | rfl | rfl | rfl <;> exact ⟨_, rfl, by decide +kernel⟩) rfl (by decide) fun x hx => ?_
      exact k _ _ (sm_unk hx).sh (Pre.refl.app _)
    · split
      · rw [x_ref hm]
        walk_at "wq"
        refine num hl hs hz fun t1 h1 s1 p1 => ?_
        rw [x_ref (gx p1)]
        walk_at "wq"
        refine num (p1.get hl) hs hz fun t2 h2 s2 p2 => ?_
        exact k _ _ (sh_plus s1 s2) (p1.trans p2)
      · split
        · rw [x_ref hm]
          walk_at "wq"
          refine num hl hs hz fun t1 h1 s1 p1 => ?_
          rw [x_ref (gx p1)]
          walk_at "wq"
          refine thing (p1.get hl) hs hz fun t2 h2 s2 p2 => ?_
          exact k _ _ (sh_call (by decide +kernel) (fun a ha => by simp only [List.mem_cons, List.not_mem_nil, or_false] at ha; rcases ha with rfl | rfl <;> assumption) (by simp)) (p1.trans p2)
        · split
          · rw [x_ref hm]
            walk_at "wq"
            refine thing hl hs hz fun t1 h1 s1 p1 => ?_
            exact k _ _ (sh_call (by decide +kernel) (fun a ha => by simp only [List.mem_cons, List.not_mem_nil, or_false] at ha; rcases ha with rfl; assumption) (by simp)) p1
          · split
            · rw [x_ref hm]
              walk_at "wq"
              refine num hl hs hz fun t1 h1 s1 p1 => ?_
              exact k _ _ (sh_call (by decide +kernel) (fun a ha => by simp only [List.mem_cons, List.not_mem_nil, or_false] at ha; rcases ha with rfl; assumption) (by simp)) p1
            · rw [x_ref (gx (Pre.refl.app _))]
              walk_at "wq"
              rw [b_mod (by decide)]
              refine pickS get_new (by intro y hy; simp only [List.mem_cons, List.not_mem_nil, or_false] at hy; rcases hy with rfl | rfl <;> exact ⟨_, rfl, by decide +kernel⟩) rfl (by decide) fun x hx => ?_
              walk_at "wq"
              have p0 : Pre h (h ++ [O.lst [D.str "p", .str "q"]]) := Pre.refl.app _
              have sa := (sm_unk hx).p5
              split
              · rw [x_ref (gx p0)]
                walk_at "wq"
                refine num (p0.get hl) hs hz fun t1 h1 s1 p1 => ?_
                rw [x_ref (gx (p0.trans p1))]
                walk_at "wq"
                refine num ((p0.trans p1).get hl) hs hz fun t2 h2 s2 p2 => ?_
                walk_at "wq"
                rw [x_ref (gx ((p0.trans p1).trans p2))]
                walk_at "wq"
                refine num (((p0.trans p1).trans p2).get hl) hs hz fun t3 h3 s3 p3 => ?_
                refine k _ _ (sh_read (pl_tups (fun d hd => ?_) (by simp)) s3) (((p0.trans p1).trans p2).trans p3)
                simp only [List.mem_cons, List.not_mem_nil, or_false] at hd
                rcases hd with rfl | rfl | rfl | rfl
                · decide +kernel
                · exact sa
                · exact s1.p5
                · exact s2.p5
              · rw [x_ref (gx p0)]
                walk_at "wq"
                refine num (p0.get hl) hs hz fun t3 h3 s3 p3 => ?_
                exact k _ _ (sh_read (plB_mono sa (by decide)) s3) (p0.trans p3)
theorem pickSh {ys : List D} {l : Nat} {i : Int} (e : h[l]? = some (.lst ys)) (hy : ∀ y ∈ ys, Sh y) (h0 : 0 < ys.length) (k : ∀ t, Sh t → P t h) : (ixop (.ref l) (.int (i % (ys.length : Int))) h).W P X := by
  obtain ⟨d, e1, e2, _⟩ := item_int (xs := ys) (i := i % (ys.length : Int)) (Int.emod_nonneg _ (by omega)) (Int.emod_lt_of_pos _ (by omega))
  rw [x_ref e, e1]
  exact k d (hy d e2)
theorem law_end {ts : List D} {l : Nat} (hl : h[l]? = some (.lst ts)) (hs : ∀ t ∈ ts, Sh t) (hz : ts.length ≤ 30) (ρ1 ρ2 ρ3 : Option D) (x0 : D) :
    (evSs (tb.fns (n + 3)) (.cons (.asg (.name 4) (.bfn .list (.cons (.var 1) .nil))) (.cons (.asg (.name 5) (.call 2 (.cons (.var 4) .nil) [])) (.cons (.ife (.or (.not (.bfn (.isi .list) (.cons (.var 5) .nil))) (.or (.cmp .ne (.var 5) (.call 10 (.cons (.var 1) .nil) [])) (.cmp .ne (.var 4) (.var 1)))) (.cons (.ret (.cst (.bl false))) .nil) .nil) (.cons (.ex (.met .append (.var 5) (.cons (.tup .nil) .nil))) (.cons (.ret (.cmp .eq (.call 2 (.cons (.var 1) .nil) []) (.call 10 (.cons (.var 1) .nil) []))) .nil)))))
      [some x0, some (.ref l), ρ1, ρ2, none, none, ρ3] h).fin.W (fun d _ => d = .bl true) (fun _ _ => False) := by
  have pp : ∀ y ∈ prs arePair (dd isCall ts), plB 41 y = true := by
    have gen : ∀ L : List D, (∀ t ∈ L, Sh t) → ∀ y ∈ prs arePair L, plB 41 y = true := by
      intro L
      induction L with
      | nil => intro _ y hy; simp [prs] at hy
      | cons a L ih =>
        intro hL y hy
        rcases List.mem_append.mp hy with hy | hy
        · obtain ⟨b, hb, rfl⟩ := List.mem_map.mp hy
          refine pl_tups (fun d hd => ?_) (by simp)
          simp only [List.mem_cons, List.not_mem_nil, or_false] at hd
          rcases hd with rfl | rfl
          · exact (hL _ List.mem_cons_self).pl
          · exact (hL _ (List.mem_cons_of_mem _ (List.mem_filter.mp hb).1)).pl
        · exact ih (fun t ht => hL t (List.mem_cons_of_mem _ ht)) y hy
    exact gen _ fun t ht => hs t (dd_mem ht).1
  have hz' : ts.length ≤ 100 := by omega
  walk_at "wq"
  rw [f_list (seq_ref hl)]
  have p0 : Pre h (h ++ [.lst ts]) := Pre.refl.app _
  refine pairs_of get_new hs hz' fun l1 h1 p1 e1 g1 => ?_
  walk_at "wq"
  rw [f_isiL e1]
  simp only [byT_bl, decide_true, if_true]
  walk_at "wq"
  simp only [Bool.false_eq_true, if_false]
  refine due ((p0.trans p1).get hl) hs hz' fun l2 h2 p2 e2 g2 => ?_
  rw [law_math] at e2
  have e1' := p2.get e1
  rw [c_ne (eqD_lst e1' e2 pp pp)]
  simp only [decide_true, Bool.not_true, byT_bl, Bool.false_eq_true, if_false]
  have pl40 : ∀ t ∈ ts, plB 40 t = true := fun t ht => (hs t ht).pl
  rw [c_ne (eqD_lst ((p1.trans p2).get get_new) (((p0.trans p1).trans p2).get hl) pl40 pl40)]
  simp only [decide_true, Bool.not_true, byT_bl, Bool.false_eq_true, if_false]
  walk_at "wq"
  simp only [m_app e1']
  walk_at "wq"
  rw [m_append e1']
  have hl3 : (h2.set l1 (.lst (prs arePair (dd isCall ts) ++ [.tup []])))[l]? = some (.lst ts) := by
    have : l1 ≠ l := by
      have := (List.getElem?_eq_some_iff.mp hl).1
      simp at g1; omega
    rw [List.getElem?_set_ne this]
    exact ((p0.trans p1).trans p2).get hl
  have plen : (prs arePair (dd isCall ts)).length < mx := by
    have gen : ∀ L : List D, (prs arePair L).length ≤ 100 * L.length ∨ 100 < L.length := by
      intro L
      induction L with
      | nil => left; simp [prs]
      | cons a L ih =>
        by_cases c : 100 < (a :: L).length
        · exact .inr c
        · left
          simp at c
          have := List.length_filter_le (arePair a) L
          rcases ih with ih | ih
          · show (_ ++ prs arePair L).length ≤ _
            simp; omega
          · omega
    have := dd_len isCall ts
    rcases gen (dd isCall ts) with g | g
    · simp [mx]; omega
    · omega
  refine ⟨plen, ?_⟩
  refine pairs_of hl3 hs hz' fun l4 h4 p4 e4 g4 => ?_
  refine due (p4.get hl3) hs hz' fun l5 h5 p5 e5 g5 => ?_
  rw [law_math] at e5
  rw [c_eq (eqD_lst (p5.get e4) e5 pp pp)]
  simp
theorem law (ns : List Int) (hn : ns.length ≤ 63) : ((tb.fns 60).call 11 [.scr (ns.map D.int)] []).W (fun d _ => d = .bl true) (fun _ _ => False) := by
  rw [run11]
  walk_at "wq"
  rw [sl_lst (show lstOf _ (.scr (ns.map D.int)) = some (ns.map D.int) from rfl), seqW_of (seq_ref get_new)]
  have hc : cut (ns.map D.int) none (some 30) = (ns.take 30).map D.int := by
    have := cut_to (xs := ns.map D.int) (k := 30)
    rw [← List.map_take] at this
    exact this
  rw [hc]
  refine forI_W (fun k ρ h' => ∃ z1 z2 z3 ts, ρ = [some (.scr (ns.map D.int)), some (.ref 0), z1, z2, none, none, z3] ∧ h'[0]? = some (.lst ts) ∧ h'[1]? = some (.lst ((ns.take 30).map D.int)) ∧ (∀ t ∈ ts, Sh t) ∧ ts.length = k) _ ?_ ⟨none, none, none, [], rfl, rfl, rfl, (fun t ht => by simp at ht), rfl⟩ ?_
  · intro k x ρ h' e ⟨z1, z2, z3, ts, eρ, e0, e1, hs, hk⟩
    subst eρ
    have hk30 : k < 30 := by
      have := (List.getElem?_eq_some_iff.mp e).1
      simp at this; omega
    obtain ⟨i, hi⟩ : ∃ i, x = D.int i := by
      obtain ⟨i, _, rfl⟩ := List.mem_map.mp (sub_get e)
      exact ⟨i, rfl⟩
    subst hi
    have kp : ∀ h2 : PH, h2[1]? = some (.lst ((ns.take 30).map D.int)) → kept ([O.lst []] ++ [O.lst ((ns.take 30).map D.int)]) h2 (locs (.ref ([O.lst []] : PH).length)) = true := fun h2 e3 => kept_one (by rw [get_new]; exact e3.symm)
    have h0len : 0 < h'.length := (List.getElem?_eq_some_iff.mp e0).1
    have h1len : 1 < h'.length := (List.getElem?_eq_some_iff.mp e1).1
    have done : ∀ (h2 : PH) (t : D) (z z' : Option D), Pre h' h2 → Sh t → (kept ([O.lst []] ++ [O.lst ((ns.take 30).map D.int)]) (h2.set 0 (.lst (ts ++ [t]))) (locs (.ref ([O.lst []] : PH).length)) = true ∧
        ∃ z1 z2 z3 ts', [some (D.scr (ns.map D.int)), some (.ref 0), some (.int i), z, none, none, z'] = [some (.scr (ns.map D.int)), some (.ref 0), z1, z2, none, none, z3] ∧ (h2.set 0 (.lst (ts ++ [t])))[0]? = some (.lst ts') ∧ (h2.set 0 (.lst (ts ++ [t])))[1]? = some (.lst ((ns.take 30).map D.int)) ∧ (∀ t ∈ ts', Sh t) ∧ ts'.length = k + 1) := by
      intro h2 t z z' p st
      have q1 : (h2.set 0 (.lst (ts ++ [t])))[1]? = some (.lst ((ns.take 30).map D.int)) := by
        rw [List.getElem?_set_ne (by decide)]; exact p.get e1
      refine ⟨kp _ q1, _, _, _, ts ++ [t], rfl, get_set (p.get e0), q1, fun y hy => ?_, by simp [hk]⟩
      rcases List.mem_append.mp hy with hy | hy
      · exact hs y hy
      · rw [List.mem_singleton.mp hy]; exact st
    rw [turn_W]
    walk_at "wq"
    refine stream fun is l2 h2 hi0 hi1 p2 e2 g2 => ?_
    walk_at "wq"
    have e0' := p2.get e0
    have pl40 : ∀ t ∈ ts, plB 40 t = true := fun t ht => (hs t ht).pl
    rw [c_ne (eqD_lst ((Pre.refl.app _).get e0') get_new pl40 (fun t ht => by simp at ht))]
    simp only [byT_bl]
    match is, hi0 with
    | [a0, a1, a2, a3, a4], hi0 =>
    have e2' := e2
    simp only [List.map_cons, List.map_nil] at e2'
    have p3 : Pre h' (h2 ++ [.lst []]) := p2.app _
    have e03 := p3.get e0
    have e23 : (h2 ++ [O.lst []])[l2]? = some (.lst [D.int a0, .int a1, .int a2, .int a3, .int a4]) := (Pre.refl.app _).get e2'
    have made : ∀ P : D → PH → Prop, (∀ h4 t, Pre h' h4 → Sh t → P .non (h4.set 0 (.lst (ts ++ [t])))) → metW (tb.fns 59) .append (.cons (.call 8 (.cons (.lc (.var 6) (.name 6) (.seq (.sl (.var 1) (.yes (.neg (.cst (.int 4)))) .no)) (.cons (.cmp .lt (.call 5 (.cons (.var 6) .nil) []) (.cst (.int 6))) .nil) [6]) (.cons (.var 3) .nil)) []) .nil)
        [some (.scr (ns.map D.int)), some (.ref 0), some (.int i), some (.ref l2), none, none, z3] P (fun _ _ => False) (.ref 0) (h2 ++ [.lst []]) := by
      intro P hP
      simp only [m_app e03]
      walk_at "wq"
      rw [sl_lst (lst_ref e03), seqW_of (seq_ref get_new)]
      have p4 : Pre h' (h2 ++ [.lst []] ++ [.lst (cut ts (some (-4)) none)]) := p3.app _
      refine lcS_any Sm (fun h4 => Pre (h2 ++ [.lst []] ++ [.lst (cut ts (some (-4)) none)]) h4) _ [] _ (fun x hx h4 p => ?_) Pre.refl (by have := cut_len (xs := ts) (lo := some (-4)) (hi := none); simp [mx]; omega) (fun d hd => by simp at hd) fun ys h4 p5 q4 l4 => ?_
      · have sx := hs x (cut_sub x hx)
        have hp : isTup x = true := by obtain ⟨w, r, rfl, _⟩ := sx.sh; rfl
        have kp4 : ∀ h5, Pre h4 h5 → kept (h2 ++ [.lst []] ++ [.lst (cut ts (some (-4)) none)]) h5 (locs (.ref (h2 ++ [O.lst []]).length)) = true := fun h5 p5 => kept_pre (p.trans p5) (fun l hl => by simp [locs] at hl; subst hl; simp)
        rw [lturn_W]
        walk_at "wq"
        simp only [wipeE]
        walk_at "wq"
        refine depth 40 x 59 h4 _ _ sx.pl hp (by decide) fun h5 p5 => ?_
        simp only [c_lt, byT_bl]
        by_cases c : dep 40 x < 6
        · simp only [c, decide_true, if_true]
          exact ⟨fun d e => by cases e; exact ⟨sx, dep_pl 40 x sx.pl 5 (by omega)⟩, kp4 _ p5, p.trans p5⟩
        · simp only [c, decide_false, Bool.false_eq_true, if_false]
          exact ⟨fun d e => (by cases e), kp4 _ p5, p.trans p5⟩
      · walk_at "wq"
        have g4 : (h4 ++ [O.lst ys])[l2]? = some (.lst ([a0, a1, a2, a3, a4].map D.int)) := (((Pre.refl.app _).trans p5).app _).get e23
        have cl := cut_len (xs := ts) (lo := some (-4)) (hi := none)
        refine term get_new q4 (by simp at l4; omega) g4 rfl fun t h5 st p6 => ?_
        have e05 := (((Pre.refl.app _).trans p5).app _ |>.trans p6).get e03
        rw [m_append e05]
        exact ⟨by simp [mx]; omega, hP _ _ ((p4.trans p5).app _ |>.trans p6) st⟩
    have fin : ∀ h4 t, Pre h' h4 → Sh t → _ := fun h4 t p st => done h4 t (some (.ref l2)) z3 p st
    by_cases c : ts = []
    · simp only [c, decide_true, Bool.not_true, Bool.false_eq_true, if_false]
      refine made _ ?_
      exact fun h4 t p st => fin h4 t p st
    · simp only [c, decide_false, Bool.not_false, if_true]
      rw [x_ref e23]
      walk_at "wq"
      rw [b_mod (by decide)]
      walk_at "wq"
      split
      · simp only [m_app e03]
        walk_at "wq"
        rw [x_ref e23]
        walk_at "wq"
        rw [f_lenL e03]
        have h0 : 0 < ts.length := List.length_pos_iff.mpr c
        rw [b_mod (by omega)]
        refine pickSh e03 hs h0 fun t st => ?_
        rw [m_append e03]
        exact ⟨by simp [mx]; omega, fin _ t p3 st⟩
      · refine made _ ?_
        exact fun h4 t p st => fin h4 t p st
  · intro ρ h' ⟨z1, z2, z3, ts, eρ, e0, e1, hs, hk⟩
    subst eρ
    have := law_end (n := 56) (h := h') e0 hs (by simp at hk; omega) z1 z2 z3 (.scr (ns.map D.int))
    revert this
    walk_at "wq"
    exact id
end
end Q31
namespace Q31
open Mp Mp.Wp
def levels : Nat := 60
theorem law_ok (ns : List Int) (hn : ns.length ≤ 63) (_ : ∀ z ∈ ns, PySem.Builtin.Int.intBits z ≤ 1048576) : ∃ h', (tb.fns levels).call 11 [.scr (ns.map D.int)] [] = .ok (.bl true) h' := by
  have := law ns hn
  unfold levels
  cases e : (tb.fns 60).call 11 [.scr (ns.map D.int)] [] with
  | ok d h => rw [e] at this; exact ⟨h, by rw [show d = .bl true from this]⟩
  | exc c h => rw [e] at this; exact this.elim
  | stk => rw [e] at this; exact this.elim
end Q31

set_option Elab.async false
set_option linter.all false
set_option maxRecDepth 100000
/-! C2: the relation of the pure state with the run's, and the operations. -/
namespace Mp
open PySem PySem.Spec PyProof.Rows L2

theorem mx_eq : mx = sizeLine := by rw [sizeLine_eq]; rfl

/-- where the text's things stand: the written part, the defs, the classes -/
structure Gm where
  K : PySem.W.Frag
  fa : Nat → Addr
  ca : Nat → Addr
  xa : Nat → Value

/-- a list of the written part -/
def SqK (K : PySem.W.Frag) (a : Addr) (xs : List V) : Prop :=
  ∃ (o : Obj) (its : Array Value) (n : Nat), K.lookup a = some o ∧ o.cls = .type "list" ∧ o.dict = none ∧ o.data = .seq its n ∧ its.size ≤ sizeLine ∧ Vals xs its.toList
/-- a list that is only read -/
def SqF (K : PySem.W.Frag) (H : Hp) (a : Addr) (xs : List V) : Prop := (∃ ob, H a = some (.frz ob (.lst xs))) ∨ SqK K a xs
theorem SqF.sq {K : PySem.W.Frag} {H : Hp} {a : Addr} {xs : List V} (q : SqF K H a xs) : SqL K H a xs := q.elim (fun q => .inl (.inr q)) .inr
mutual
inductive VD (G : Gm) (m : List Addr) (H : Hp) : V → D → Prop
  | non : VD G m H .non .non
  | bl (b : Bool) : VD G m H (.bl b) (.bl b)
  | int (i : Int) : VD G m H (.int i) (.int i)
  | str (x : Str) : VD G m H (.str x) (.str x)
  | tup {a : Addr} {vs : List V} {ds : List D} : SqT G.K H a vs → VDs G m H vs ds → VD G m H (.ref a) (.tup ds)
  | ref {a : Addr} {l : Nat} : m[l]? = some a → VD G m H (.ref a) (.ref l)
  | fn {a : Addr} {k : Nat} : G.fa k = a → VD G m H (.ref a) (.fn k)
  | scr {a : Addr} {vs : List V} {ds : List D} : SqF G.K H a vs → VDs G m H vs ds → VD G m H (.ref a) (.scr ds)
inductive VDs (G : Gm) (m : List Addr) (H : Hp) : List V → List D → Prop
  | nil : VDs G m H [] []
  | cons {v : V} {vs : List V} {d : D} {ds : List D} : VD G m H v d → VDs G m H vs ds → VDs G m H (v :: vs) (d :: ds)
end

/-- what stands later: more places, the same tuples -/
structure Ext (K : PySem.W.Frag) (m : List Addr) (H : Hp) (m' : List Addr) (H' : Hp) : Prop where
  pre : ∃ r, m' = m ++ r
  tups : ∀ a xs, SqT K H a xs → SqT K H' a xs
  frz : ∀ a xs, SqF K H a xs → SqF K H' a xs
  fr : ∀ a, a ∉ m → H a ≠ none → H' a = H a
  new : ∀ a, a ∈ m' → a ∉ m → H a = none
section
variable {K : PySem.W.Frag} {G : Gm} {m m' m2 : List Addr} {H H' H2 : Hp}
theorem Ext.refl : Ext K m H m H := ⟨⟨[], (List.append_nil _).symm⟩, fun _ _ h => h, fun _ _ h => h, fun _ _ _ => rfl, fun _ h h' => absurd h h'⟩
theorem Ext.trans (a : Ext K m H m' H') (b : Ext K m' H' m2 H2) : Ext K m H m2 H2 := by
  obtain ⟨r, e⟩ := a.pre
  obtain ⟨r', e'⟩ := b.pre
  refine ⟨⟨r ++ r', by rw [e', e, List.append_assoc]⟩, fun x xs h => b.tups x xs (a.tups x xs h), fun x xs h => b.frz x xs (a.frz x xs h), fun x hx hn => ?_, fun x hx hn => ?_⟩
  · have h1 : x ∉ m' := fun q => hn (a.new x q hx)
    have h2 := a.fr x hx hn
    rw [← h2]
    exact b.fr x h1 (by rw [h2]; exact hn)
  · by_cases h1 : x ∈ m'
    · exact a.new x h1 hn
    · have h2 := b.new x hx h1
      cases h3 : H x with
      | none => rfl
      | some o =>
        have h4 := a.fr x hn (by rw [h3]; exact fun z => nomatch z)
        rw [h2, h3] at h4; cases h4
theorem Ext.get (a : Ext K m H m' H') {l : Nat} {x : Addr} (h : m[l]? = some x) : m'[l]? = some x := by
  obtain ⟨r, e⟩ := a.pre
  rw [e, List.getElem?_append_left (List.getElem?_eq_some_iff.mp h).1]
  exact h
mutual
theorem VD.mono2 (hp : ∀ {l : Nat} {x : Addr}, m[l]? = some x → m'[l]? = some x) (ht : ∀ a xs, SqT G.K H a xs → SqT G.K H' a xs) (hf : ∀ a xs, SqF G.K H a xs → SqF G.K H' a xs) : ∀ {v : V} {d : D}, VD G m H v d → VD G m' H' v d
  | _, _, .non => .non
  | _, _, .bl b => .bl b
  | _, _, .int i => .int i
  | _, _, .str x => .str x
  | _, _, .tup a b => .tup (ht _ _ a) (VDs.mono2 hp ht hf b)
  | _, _, .ref a => .ref (hp a)
  | _, _, .fn a => .fn a
  | _, _, .scr a b => .scr (hf _ _ a) (VDs.mono2 hp ht hf b)
theorem VDs.mono2 (hp : ∀ {l : Nat} {x : Addr}, m[l]? = some x → m'[l]? = some x) (ht : ∀ a xs, SqT G.K H a xs → SqT G.K H' a xs) (hf : ∀ a xs, SqF G.K H a xs → SqF G.K H' a xs) : ∀ {v : List V} {d : List D}, VDs G m H v d → VDs G m' H' v d
  | _, _, .nil => .nil
  | _, _, .cons a b => .cons (VD.mono2 hp ht hf a) (VDs.mono2 hp ht hf b)
end
theorem VD.mono (e : Ext G.K m H m' H') {v : V} {d : D} (x : VD G m H v d) : VD G m' H' v d := x.mono2 (fun h => e.get h) e.tups e.frz
theorem VDs.mono (e : Ext G.K m H m' H') {v : List V} {d : List D} (x : VDs G m H v d) : VDs G m' H' v d := x.mono2 (fun h => e.get h) e.tups e.frz
theorem VDs.len : ∀ {v : List V} {d : List D}, VDs G m H v d → v.length = d.length
  | _, _, .nil => rfl
  | _, _, .cons _ b => by rw [List.length_cons, List.length_cons, VDs.len b]
theorem VDs.get : ∀ {vs : List V} {ds : List D} {i : Nat} {d : D}, VDs G m H vs ds → ds[i]? = some d → ∃ v, vs[i]? = some v ∧ VD G m H v d
  | _, _, _, _, .nil, e => by simp at e
  | _, _, 0, _, .cons a b, e => by simp at e; subst e; exact ⟨_, rfl, a⟩
  | _, _, i + 1, d, .cons a b, e => by
    obtain ⟨v, h1, h2⟩ := VDs.get (i := i) (d := d) b (by simpa using e)
    exact ⟨v, by simpa using h1, h2⟩
theorem VDs.getV : ∀ {vs : List V} {ds : List D} {i : Nat} {v : V}, VDs G m H vs ds → vs[i]? = some v → ∃ d, ds[i]? = some d ∧ VD G m H v d
  | _, _, _, _, .nil, e => by simp at e
  | _, _, 0, _, .cons a b, e => by simp at e; subst e; exact ⟨_, rfl, a⟩
  | _, _, i + 1, d, .cons a b, e => by
    obtain ⟨v, h1, h2⟩ := VDs.getV (i := i) (v := d) b (by simpa using e)
    exact ⟨v, by simpa using h1, h2⟩
theorem VDs.append : ∀ {vs ws : List V} {ds es : List D}, VDs G m H vs ds → VDs G m H ws es → VDs G m H (vs ++ ws) (ds ++ es)
  | _, _, _, _, .nil, h => h
  | _, _, _, _, .cons a b, h => .cons a (VDs.append b h)
theorem VDs.take : ∀ {vs : List V} {ds : List D} (n : Nat), VDs G m H vs ds → VDs G m H (vs.take n) (ds.take n)
  | _, _, 0, _ => .nil
  | _, _, _ + 1, .nil => .nil
  | _, _, n + 1, .cons a b => .cons a (VDs.take n b)
theorem VDs.drop : ∀ {vs : List V} {ds : List D} (n : Nat), VDs G m H vs ds → VDs G m H (vs.drop n) (ds.drop n)
  | _, _, 0, h => h
  | _, _, _ + 1, .nil => .nil
  | _, _, n + 1, .cons a b => VDs.drop n b
theorem VDs.set {v : V} {d : D} (x : VD G m H v d) : ∀ {vs : List V} {ds : List D} (n : Nat), VDs G m H vs ds → VDs G m H (vs.set n v) (ds.set n d)
  | _, _, _, .nil => .nil
  | _, _, 0, .cons a b => .cons x b
  | _, _, n + 1, .cons a b => .cons a (VDs.set x n b)
theorem VDs.erase : ∀ {vs : List V} {ds : List D} (n : Nat), VDs G m H vs ds → VDs G m H (vs.eraseIdx n) (ds.eraseIdx n)
  | _, _, _, .nil => .nil
  | _, _, 0, .cons a b => b
  | _, _, n + 1, .cons a b => .cons a (VDs.erase n b)
theorem VDs.dropLast {vs : List V} {ds : List D} (h : VDs G m H vs ds) : VDs G m H vs.dropLast ds.dropLast := by
  rw [List.dropLast_eq_take, List.dropLast_eq_take, h.len]
  exact h.take _
theorem VDs.reverse : ∀ {vs : List V} {ds : List D}, VDs G m H vs ds → VDs G m H vs.reverse ds.reverse
  | _, _, .nil => .nil
  | _, _, .cons a b => by
    rw [List.reverse_cons, List.reverse_cons]
    exact (VDs.reverse b).append (.cons a .nil)
theorem VDs.rep {vs : List V} {ds : List D} (h : VDs G m H vs ds) : ∀ k : Nat, VDs G m H (List.replicate k vs).flatten (List.replicate k ds).flatten
  | 0 => .nil
  | k + 1 => by
    rw [List.replicate_succ, List.replicate_succ, List.flatten_cons, List.flatten_cons]
    exact h.append (VDs.rep h k)
theorem VDs.nil_iff {vs : List V} {ds : List D} (h : VDs G m H vs ds) : vs = [] ↔ ds = [] := by
  cases h with
  | nil => exact ⟨fun _ => rfl, fun _ => rfl⟩
  | cons a b => exact ⟨fun e => (by cases e), fun e => (by cases e)⟩
theorem VDs.isEmpty {vs : List V} {ds : List D} (h : VDs G m H vs ds) : vs.isEmpty = ds.isEmpty := by
  cases h <;> rfl
end

/-- a key of a dict by value -/
def keyD : Key → D
  | .inl i => .int i
  | .inr x => .str x
theorem keyD_inj : ∀ {a b : Key}, keyD a = keyD b → a = b
  | .inl a, .inl b, h => by injection h with h; rw [h]
  | .inr a, .inr b, h => by injection h with h; rw [h]
  | .inl a, .inr b, h => nomatch h
  | .inr a, .inl b, h => nomatch h

inductive KVD (G : Gm) (m : List Addr) (H : Hp) : List (Key × V) → List (D × D) → Prop
  | nil : KVD G m H [] []
  | cons {k : Key} {v : V} {d : D} {r : List (Key × V)} {s : List (D × D)} : VD G m H v d → KVD G m H r s → KVD G m H ((k, v) :: r) ((keyD k, d) :: s)
inductive FVD (G : Gm) (m : List Addr) (H : Hp) : List (Str × V) → List (Str × D) → Prop
  | nil : FVD G m H [] []
  | cons {k : Str} {v : V} {d : D} {r : List (Str × V)} {s : List (Str × D)} : VD G m H v d → FVD G m H r s → FVD G m H ((k, v) :: r) ((k, d) :: s)

def OR (G : Gm) (m : List Addr) (H : Hp) (a : Addr) : O → Prop
  | .lst ds => ∃ vs, H a = some (.lst vs) ∧ VDs G m H vs ds
  | .dct kvs => ∃ ks, H a = some (.dK ks) ∧ KVD G m H ks kvs
  | .ins c fs => ∃ dx vs, H a = some (.ins (G.ca c) dx vs) ∧ H dx = some (.own a) ∧ FVD G m H vs fs
structure HR (G : Gm) (m : List Addr) (h : PH) (H : Hp) : Prop where
  len : m.length = h.length
  nd : m.Nodup
  obj : ∀ (l : Nat) (a : Addr) (o : O), m[l]? = some a → h[l]? = some o → OR G m H a o
/-- the slots -/
def ER (G : Gm) (m : List Addr) (H : Hp) (σ : L2.St) (ρ : Env) : Prop := σ.length = ρ.length ∧ ∀ (i : Nat) (d : D), ρ[i]? = some (some d) → ∃ v, σ[i]? = some (some v) ∧ VD G m H v d

/-- p may be written: it is new, or a mutable object stands there -/
def Wr (H : Hp) (p : Addr) : Prop := H p = none ∨ ∃ u, H p = some u ∧ (∀ xs, u ≠ .tup xs) ∧ (∀ q x, u ≠ .frz q x) ∧ ∀ x, u ≠ .own x

section
variable {G : Gm} {m m' m2 : List Addr} {H H' H2 : Hp} {h h' : PH} {σ : L2.St} {ρ : Env}
theorem KVD.mono (e : Ext G.K m H m' H') : ∀ {a : List (Key × V)} {b : List (D × D)}, KVD G m H a b → KVD G m' H' a b
  | _, _, .nil => .nil
  | _, _, .cons a b => .cons (a.mono e) (KVD.mono e b)
theorem FVD.mono (e : Ext G.K m H m' H') : ∀ {a : List (Str × V)} {b : List (Str × D)}, FVD G m H a b → FVD G m' H' a b
  | _, _, .nil => .nil
  | _, _, .cons a b => .cons (a.mono e) (FVD.mono e b)
theorem ER.mono (e : Ext G.K m H m' H') (r : ER G m H σ ρ) : ER G m' H' σ ρ := ⟨r.1, fun i d q => let ⟨v, a, b⟩ := r.2 i d q; ⟨v, a, b.mono e⟩⟩
theorem HR.at (r : HR G m h H) {l : Nat} {o : O} (e : h[l]? = some o) : ∃ a, m[l]? = some a ∧ OR G m H a o := by
  have hl : l < m.length := by rw [r.len]; exact (List.getElem?_eq_some_iff.mp e).1
  exact ⟨m[l], by simp [hl], r.obj l _ o (by simp [hl]) e⟩
theorem HR.of (r : HR G m h H) {l : Nat} {a : Addr} {o : O} (ea : m[l]? = some a) (e : h[l]? = some o) : OR G m H a o := r.obj l a o ea e

theorem tups_upd {K : PySem.W.Frag} {p : Addr} {o : HO} (hn : Wr H p) : ∀ a xs, SqT K H a xs → SqT K (upd H p o) a xs := by
  intro a xs q
  rcases q with (q | ⟨ob, q⟩) | q
  · refine .inl (.inl ?_)
    rw [upd_ne ?_]
    · exact q
    · rintro rfl
      rcases hn with hn | ⟨u, hn, h1, h2, _⟩
      · rw [hn] at q; cases q
      · rw [hn] at q; cases q; exact h1 _ rfl
  · refine .inl (.inr ⟨ob, ?_⟩)
    rw [upd_ne ?_]
    · exact q
    · rintro rfl
      rcases hn with hn | ⟨u, hn, h1, h2, _⟩
      · rw [hn] at q; cases q
      · rw [hn] at q; cases q; exact h2 _ _ rfl
  · exact .inr q
theorem frz_upd {K : PySem.W.Frag} {p : Addr} {o : HO} (hn : Wr H p) : ∀ a xs, SqF K H a xs → SqF K (upd H p o) a xs := by
  intro a xs q
  rcases q with ⟨ob, q⟩ | q
  · refine .inl ⟨ob, ?_⟩
    rw [upd_ne ?_]
    · exact q
    · rintro rfl
      rcases hn with hn | ⟨u, hn, h1, h2, _⟩
      · rw [hn] at q; cases q
      · rw [hn] at q; cases q; exact h2 _ _ rfl
  · exact .inr q
/-- an object but p stays as it is -/
theorem OR.keep {p : Addr} {u : HO} {a : Addr} {o : O} (x : OR G m H a o) (e : Ext G.K m H m' (upd H p u)) (hp : a ≠ p) (hw : Wr H p) : OR G m' (upd H p u) a o := by
  cases o with
  | lst ds => obtain ⟨vs, a1, a2⟩ := x; exact ⟨vs, by rw [upd_ne hp]; exact a1, a2.mono e⟩
  | dct kvs => obtain ⟨ks, a1, a2⟩ := x; exact ⟨ks, by rw [upd_ne hp]; exact a1, a2.mono e⟩
  | ins c fs =>
    obtain ⟨dx, vs, a1, a2, a3⟩ := x
    refine ⟨dx, vs, by rw [upd_ne hp]; exact a1, ?_, a3.mono e⟩
    rw [upd_ne ?_]
    · exact a2
    · rintro rfl
      rcases hw with hn | ⟨u, hn, _, _, h3⟩
      · rw [hn] at a2; cases a2
      · rw [hn] at a2; cases a2; exact h3 _ rfl
theorem OR.there {a : Addr} {o : O} (x : OR G m H a o) : H a ≠ none := by
  intro hn
  cases o with
  | lst ds => obtain ⟨vs, a1, a2⟩ := x; rw [hn] at a1; cases a1
  | dct kvs => obtain ⟨ks, a1, a2⟩ := x; rw [hn] at a1; cases a1
  | ins c fs => obtain ⟨dx, vs, a1, a2, a3⟩ := x; rw [hn] at a1; cases a1
theorem OR.ne_free {p : Addr} {a : Addr} {o : O} (x : OR G m H a o) (hn : H p = none) : a ≠ p := by
  rintro rfl
  exact x.there hn
theorem HR.mem (r : HR G m h H) {a : Addr} (ha : a ∈ m) : H a ≠ none := by
  obtain ⟨l, hl, e⟩ := List.getElem_of_mem ha
  have hl' : l < h.length := by rw [← r.len]; exact hl
  exact (r.obj l a h[l] (by simp [hl, e]) (by simp [hl'])).there
theorem HR.fresh (r : HR G m h H) {p : Addr} (hn : H p = none) : p ∉ m := fun z => r.mem z hn
theorem HR.inj (r : HR G m h H) {l l' : Nat} {a : Addr} (e1 : m[l]? = some a) (e2 : m[l']? = some a) : l = l' := by
  obtain ⟨h1, e1⟩ := List.getElem?_eq_some_iff.mp e1
  obtain ⟨h2, e2⟩ := List.getElem?_eq_some_iff.mp e2
  exact (List.getElem_inj r.nd).mp (e1.trans e2.symm)
theorem ext_new {K : PySem.W.Frag} {p : Addr} {u : HO} (hn : H p = none) : Ext K m H (m ++ [p]) (upd H p u) :=
  ⟨⟨[p], rfl⟩, tups_upd (.inl hn), frz_upd (.inl hn), fun a _ h => upd_ne (by rintro rfl; exact h hn), fun a h h' => by
    rcases List.mem_append.mp h with q | q
    · exact absurd q h'
    · rw [List.mem_singleton.mp q]; exact hn⟩
theorem ext_upd {K : PySem.W.Frag} {p : Addr} {u : HO} (hw : Wr H p) (hm : p ∈ m) : Ext K m H m (upd H p u) :=
  ⟨⟨[], (List.append_nil _).symm⟩, tups_upd hw, frz_upd hw, fun a h _ => upd_ne (by rintro rfl; exact h hm), fun a h h' => absurd h h'⟩
theorem ext_tup {K : PySem.W.Frag} {p : Addr} {u : HO} (hn : H p = none) : Ext K m H m (upd H p u) :=
  ⟨⟨[], (List.append_nil _).symm⟩, tups_upd (.inl hn), frz_upd (.inl hn), fun a _ h => upd_ne (by rintro rfl; exact h hn), fun a h h' => absurd h h'⟩
/-- a tuple is laid -/
theorem HR.tup (r : HR G m h H) {p : Addr} {vs : List V} (hn : H p = none) : HR G m h (upd H p (.tup vs)) :=
  ⟨r.len, r.nd, fun l a o ea eo => (r.obj l a o ea eo).keep (ext_tup hn) ((r.obj l a o ea eo).ne_free hn) (.inl hn)⟩
/-- the places and one more -/
theorem snoc_get {p : Addr} {o : O} (hl : m.length = h.length) {l : Nat} {a : Addr} {o' : O} (ea : (m ++ [p])[l]? = some a) (eo : (h ++ [o])[l]? = some o') : (m[l]? = some a ∧ h[l]? = some o') ∨ (l = m.length ∧ a = p ∧ o' = o) := by
  by_cases hlt : l < m.length
  · rw [List.getElem?_append_left hlt] at ea
    rw [List.getElem?_append_left (by omega)] at eo
    exact .inl ⟨ea, eo⟩
  · rw [List.getElem?_append_right (by omega)] at ea
    rw [List.getElem?_append_right (by omega)] at eo
    have : l = m.length := by
      have := (List.getElem?_eq_some_iff.mp ea).1
      simp at this; omega
    subst this
    rw [hl] at eo
    simp at ea eo
    exact .inr ⟨rfl, ea.symm, eo.symm⟩
theorem nd_snoc {p : Addr} (hm : m.Nodup) (hp : p ∉ m) : (m ++ [p]).Nodup := by
  rw [List.nodup_append]
  refine ⟨hm, by simp, fun a ha b hb => ?_⟩
  rw [List.mem_singleton.mp hb]
  rintro rfl
  exact hp ha
/-- an object is laid -/
theorem HR.new (r : HR G m h H) {p : Addr} {u : HO} {o : O} (hn : H p = none) (ho : OR G (m ++ [p]) (upd H p u) p o) : HR G (m ++ [p]) (h ++ [o]) (upd H p u) := by
  refine ⟨by simp [r.len], nd_snoc r.nd (r.fresh hn), fun l a o' ea eo => ?_⟩
  rcases snoc_get r.len ea eo with ⟨a1, a2⟩ | ⟨a1, a2, a3⟩
  · exact (r.obj l a o' a1 a2).keep (ext_new hn) ((r.obj l a o' a1 a2).ne_free hn) (.inl hn)
  · subst a2 a3
    exact ho
/-- an object is changed -/
theorem HR.put (r : HR G m h H) {l : Nat} {p : Addr} {u : HO} {o o' : O} (ea : m[l]? = some p) (eo : h[l]? = some o) (hw : Wr H p) (ho : OR G m (upd H p u) p o') :
    HR G m (h.set l o') (upd H p u) := by
  have hlt : l < h.length := (List.getElem?_eq_some_iff.mp eo).1
  refine ⟨by simp [r.len], r.nd, fun k a o1 e1 e2 => ?_⟩
  by_cases hk : k = l
  · subst hk
    rw [List.getElem?_set_self hlt] at e2
    cases e2
    rw [ea] at e1; cases e1
    exact ho
  · rw [List.getElem?_set_ne (Ne.symm hk)] at e2
    exact (r.obj k a o1 e1 e2).keep (ext_upd hw (List.mem_of_getElem? ea)) (by rintro rfl; exact hk (r.inj e1 ea)) hw
theorem wr_lst {p : Addr} {vs : List V} (h : H p = some (.lst vs)) : Wr H p := .inr ⟨_, h, (fun _ z => nomatch z), (fun _ _ z => nomatch z), (fun _ z => nomatch z)⟩
theorem wr_dK {p : Addr} {vs : List (Key × V)} (h : H p = some (.dK vs)) : Wr H p := .inr ⟨_, h, (fun _ z => nomatch z), (fun _ _ z => nomatch z), (fun _ z => nomatch z)⟩
theorem wr_ins {p C dx : Addr} {vs : List (Str × V)} (h : H p = some (.ins C dx vs)) : Wr H p := .inr ⟨_, h, (fun _ z => nomatch z), (fun _ _ z => nomatch z), (fun _ z => nomatch z)⟩
theorem seq_of (r : HR G m h H) {v : V} {d : D} {ds : List D} (x : VD G m H v d) (e : seqOf h d = some ds) : ∃ a vs, v = .ref a ∧ (SqL G.K H a vs ∨ SqT G.K H a vs) ∧ VDs G m H vs ds := by
  cases x with
  | tup a b => cases e; exact ⟨_, _, rfl, .inr a, b⟩
  | scr a b => cases e; exact ⟨_, _, rfl, .inl a.sq, b⟩
  | @ref a l hl =>
    have e' : (match h[l]? with
      | some (.lst ds) => some ds
      | _ => none) = some ds := e
    split at e'
    · rename_i ds' eo
      cases e'
      obtain ⟨vs, h1, h2⟩ := r.of hl eo
      exact ⟨_, vs, rfl, .inl (.inl (.inl h1)), h2⟩
    · cases e'
  | _ => cases e
theorem lst_of (r : HR G m h H) {v : V} {d : D} {ds : List D} (x : VD G m H v d) (e : lstOf h d = some ds) : ∃ a vs, v = .ref a ∧ SqL G.K H a vs ∧ VDs G m H vs ds := by
  cases x with
  | scr a b => cases e; exact ⟨_, _, rfl, a.sq, b⟩
  | @ref a l hl =>
    have e' : (match h[l]? with
      | some (.lst ds) => some ds
      | _ => none) = some ds := e
    split at e'
    · rename_i ds' eo
      cases e'
      obtain ⟨vs, h1, h2⟩ := r.of hl eo
      exact ⟨_, vs, rfl, .inl (.inl h1), h2⟩
    · cases e'
  | _ => cases e
end

/-! ### what is wanted behind -/
/-- behind an expression; W: what is wanted of an exception -/
def post (G : Gm) (W : WX) (σ : L2.St) (m : List Addr) (H : Hp) (Q : VK) : Res D → Prop
  | .ok d h' => ∀ m' v H', Ext G.K m H m' H' → HR G m' h' H' → VD G m' H' v d → Q v H'
  | .exc c h' => ∀ m' H', Ext G.K m H m' H' → HR G m' h' H' → W (G.xa c) none σ H'
  | .stk => False
def posts (G : Gm) (W : WX) (σ : L2.St) (m : List Addr) (H : Hp) (Q : List V → Hp → Prop) : Res (List D) → Prop
  | .ok d h' => ∀ m' v H', Ext G.K m H m' H' → HR G m' h' H' → VDs G m' H' v d → Q v H'
  | .exc c h' => ∀ m' H', Ext G.K m H m' H' → HR G m' h' H' → W (G.xa c) none σ H'
  | .stk => False
section
variable {G : Gm} {W : WX} {m m' m2 : List Addr} {H H' H2 : Hp} {h h' : PH} {σ : L2.St} {ρ : Env} {Q : VK}
theorem post_ext {r : Res D} (e : Ext G.K m H m' H') (p : post G W σ m H Q r) : post G W σ m' H' Q r := by
  cases r with
  | ok d h' => exact fun m2 v H2 e2 => p m2 v H2 (e.trans e2)
  | exc c h' => exact fun m2 H2 e2 => p m2 H2 (e.trans e2)
  | stk => exact p
theorem posts_ext {Q : List V → Hp → Prop} {r : Res (List D)} (e : Ext G.K m H m' H') (p : posts G W σ m H Q r) : posts G W σ m' H' Q r := by
  cases r with
  | ok d h' => exact fun m2 v H2 e2 => p m2 v H2 (e.trans e2)
  | exc c h' => exact fun m2 H2 e2 => p m2 H2 (e.trans e2)
  | stk => exact p
/-- a value has come, f is left -/
theorem post_bind {r : Res D} {f : D → PH → Res D} (p : post G W σ m H Q (r.bind f)) :
    post G W σ m H (fun v H1 => ∃ m1 d h1, Ext G.K m H m1 H1 ∧ HR G m1 h1 H1 ∧ VD G m1 H1 v d ∧ post G W σ m1 H1 Q (f d h1)) r := by
  cases r with
  | ok d h' => exact fun m1 v H1 e hr vd => ⟨m1, d, h', e, hr, vd, post_ext e p⟩
  | exc c h' => exact p
  | stk => exact p
theorem post_binds {r : Res (List D)} {f : List D → PH → Res D} (p : post G W σ m H Q (r.bind f)) :
    posts G W σ m H (fun v H1 => ∃ m1 d h1, Ext G.K m H m1 H1 ∧ HR G m1 h1 H1 ∧ VDs G m1 H1 v d ∧ post G W σ m1 H1 Q (f d h1)) r := by
  cases r with
  | ok d h' => exact fun m1 v H1 e hr vd => ⟨m1, d, h', e, hr, vd, post_ext e p⟩
  | exc c h' => exact p
  | stk => exact p
theorem posts_bind {Q : List V → Hp → Prop} {r : Res D} {f : D → PH → Res (List D)} (p : posts G W σ m H Q (r.bind f)) :
    post G W σ m H (fun v H1 => ∃ m1 d h1, Ext G.K m H m1 H1 ∧ HR G m1 h1 H1 ∧ VD G m1 H1 v d ∧ posts G W σ m1 H1 Q (f d h1)) r := by
  cases r with
  | ok d h' => exact fun m1 v H1 e hr vd => ⟨m1, d, h', e, hr, vd, posts_ext e p⟩
  | exc c h' => exact p
  | stk => exact p
theorem posts_binds {Q : List V → Hp → Prop} {r : Res (List D)} {f : List D → PH → Res (List D)} (p : posts G W σ m H Q (r.bind f)) :
    posts G W σ m H (fun v H1 => ∃ m1 d h1, Ext G.K m H m1 H1 ∧ HR G m1 h1 H1 ∧ VDs G m1 H1 v d ∧ posts G W σ m1 H1 Q (f d h1)) r := by
  cases r with
  | ok d h' => exact fun m1 v H1 e hr vd => ⟨m1, d, h', e, hr, vd, posts_ext e p⟩
  | exc c h' => exact p
  | stk => exact p
end

/-- an expression's reading -/
def tE (G : Gm) (W : WX) (F : Fns) (e : Ex) : TE := fun σ H Q => ∃ m ρ h, HR G m h H ∧ ER G m H σ ρ ∧ post G W σ m H Q (evE F e ρ h)
def tEs (G : Gm) (W : WX) (F : Fns) (e : Exs) : TA := fun σ H Q => ∃ m ρ h, HR G m h H ∧ ER G m H σ ρ ∧ posts G W σ m H Q (evEs F e ρ h)
/-- operations by values -/
def rB (G : Gm) (f : D → D → PH → Res D) : R2 := fun x y H Q => ∃ m a b h, HR G m h H ∧ VD G m H x a ∧ VD G m H y b ∧ post G (fun _ _ _ _ => False) [] m H Q (f a b h)
def rL (G : Gm) (f : List D → PH → Res D) : List V → Hp → VK → Prop := fun xs H Q => ∃ m as h, HR G m h H ∧ VDs G m H xs as ∧ post G (fun _ _ _ _ => False) [] m H Q (f as h)
theorem _root_.L2.PE.weaken {X : Cx} {e : Expr} {t t' : TE} (p : PE X e t) (h : ∀ σ H Q, t' σ H Q → t σ H Q) : PE X e t' := ⟨fun pins s σ H Q I q => p.run pins s σ H Q I (h σ H Q q)⟩
theorem _root_.L2.PT.weaken {X : Cx} {e : Expr} {t t' : TT} (p : PT X e t) (h : ∀ σ H Q, t' σ H Q → t σ H Q) : PT X e t' := ⟨fun pins s σ H Q I q => p.run pins s σ H Q I (h σ H Q q)⟩
theorem _root_.L2.PA.weaken {X : Cx} {e : List Expr} {t t' : TA} (p : PA X e t) (h : ∀ σ H Q, t' σ H Q → t σ H Q) : PA X e t' := ⟨fun pos pins s σ H Q I q => p.run pos pins s σ H Q I (h σ H Q q)⟩
theorem _root_.L2.PS.weaken {X : Cx} {e : Stmt} {t t' : TS} (p : PS X e t) (h : ∀ D σ H, t' D σ H → t D σ H) : PS X e t' := ⟨fun pins s σ H D I q => p.run pins s σ H D I (h D σ H q)⟩
/-- an operation that raises nothing -/
theorem post_quiet {G : Gm} {W : WX} {σ : L2.St} {m : List Addr} {H : Hp} {Q : VK} {r : Res D} (hq : ∀ c h, r ≠ .exc c h) (p : post G W σ m H Q r) : post G (fun _ _ _ _ => False) [] m H Q r := by
  cases r with
  | ok d h' => exact p
  | exc c h' => exact absurd rfl (hq c h')
  | stk => exact p
end Mp

set_option Elab.async false
set_option linter.all false
set_option maxRecDepth 100000
set_option maxHeartbeats 1000000
/-! C3: the operations by values. -/
namespace Mp
open PySem PySem.Spec PyProof.Rows L2
section
variable {G : Gm} {m m' : List Addr} {H H' : Hp} {h h' : PH}

/-! ### data looked through -/
mutual
def toPD : D → PyData
  | .non => .none
  | .bl b => .bool b
  | .int i => .int i
  | .str x => .str x
  | .tup ds => .tuple (toPDs ds)
  | .lst ds => .list (toPDs ds)
  | .ref _ => .none
  | .fn _ => .none
  | .exn _ => .none
  | .scr _ => .none
def toPDs : List D → List PyData
  | [] => []
  | d :: ds => toPD d :: toPDs ds
end
/-- no object stands in it, its texts are texts, at most so deep -/
inductive Gd : Nat → D → Prop
  | non {n : Nat} : Gd n .non
  | bl {n : Nat} (b : Bool) : Gd n (.bl b)
  | int {n : Nat} (i : Int) : Gd n (.int i)
  | str {n : Nat} (x : Str) : PySem.PyData.strOk x = true → Gd n (.str x)
  | tup {n : Nat} {ds : List D} : (∀ d ∈ ds, Gd n d) → Gd (n + 1) (.tup ds)
  | lst {n : Nat} {ds : List D} : (∀ d ∈ ds, Gd n d) → Gd (n + 1) (.lst ds)
theorem mapO_mem {α β : Type} {f : α → Option β} : ∀ {xs : List α} {ys : List β}, mapO f xs = some ys → ∀ y ∈ ys, ∃ x ∈ xs, f x = some y
  | [], ys, e, y, hy => by cases e; cases hy
  | x :: xs, ys, e, y, hy => by
    unfold mapO at e
    split at e
    · rename_i z hz
      split at e
      · rename_i zs hzs
        cases e
        rcases List.mem_cons.mp hy with rfl | hy
        · exact ⟨x, List.mem_cons_self, hz⟩
        · obtain ⟨x', h1, h2⟩ := mapO_mem hzs y hy
          exact ⟨x', List.mem_cons_of_mem _ h1, h2⟩
      · cases e
    · cases e
theorem deref_good : ∀ (n : Nat) (d e : D), deref h n d = some e → Gd n e
  | n, .non, e, q => by unfold deref at q; cases q; exact .non
  | n, .bl b, e, q => by unfold deref at q; cases q; exact .bl b
  | n, .int i, e, q => by unfold deref at q; cases q; exact .int i
  | n, .str x, e, q => by
    unfold deref at q
    split at q
    · rename_i hx; cases q; exact .str x hx
    · cases q
  | 0, .tup ds, e, q => by simp [deref] at q
  | n + 1, .tup ds, e, q => by
    unfold deref at q
    split at q
    · rename_i es hes
      cases q
      exact .tup fun d hd => let ⟨x, _, hx⟩ := mapO_mem hes d hd; deref_good n x d hx
    · cases q
  | 0, .ref l, e, q => by simp [deref] at q
  | n + 1, .ref l, e, q => by
    unfold deref at q
    split at q
    · split at q
      · rename_i es hes
        cases q
        exact .lst fun d hd => let ⟨x, _, hx⟩ := mapO_mem hes d hd; deref_good n x d hx
      · cases q
    · cases q
  | 0, .scr ds, e, q => by simp [deref] at q
  | n + 1, .scr ds, e, q => by
    unfold deref at q
    split at q
    · rename_i es hes
      cases q
      exact .lst fun d hd => let ⟨x, _, hx⟩ := mapO_mem hes d hd; deref_good n x d hx
    · cases q
  | n, .fn k, e, q => by simp [deref] at q
  | n, .exn k, e, q => by simp [deref] at q
  | n, .lst ds, e, q => by simp [deref] at q
theorem toPDs_len : ∀ ds : List D, (toPDs ds).length = ds.length
  | [] => rfl
  | d :: ds => by simp [toPDs, toPDs_len ds]
theorem canLays_of {n : Nat} (ih : ∀ d : D, Gd n d → (toPD d).canLay0 = true ∧ (toPD d).depth ≤ n) : ∀ ds : List D, (∀ d ∈ ds, Gd n d) → PyData.canLayAll0 (toPDs ds) = true ∧ PyData.depthAll (toPDs ds) ≤ n
  | [], _ => by simp [toPDs, PyData.canLayAll0, PyData.depthAll]
  | d :: ds, q => by
    obtain ⟨a, b⟩ := ih d (q d List.mem_cons_self)
    obtain ⟨a', b'⟩ := canLays_of ih ds fun x hx => q x (List.mem_cons_of_mem _ hx)
    refine ⟨by simp [toPDs, PyData.canLayAll0, a, a'], ?_⟩
    simp only [toPDs, PyData.depthAll]
    omega
theorem canLay_of_gd : ∀ (n : Nat) (d : D), Gd n d → (toPD d).canLay0 = true ∧ (toPD d).depth ≤ n
  | n, _, .non => by simp [toPD, PyData.canLay0, PyData.depth]
  | n, _, .bl b => by simp [toPD, PyData.canLay0, PyData.depth]
  | n, _, .int i => by simp [toPD, PyData.canLay0, PyData.depth]
  | n, _, .str x hx => by simp [toPD, PyData.canLay0, PyData.depth, hx]
  | n + 1, _, .tup (ds := ds) q => by
    obtain ⟨a, b⟩ := canLays_of (canLay_of_gd n) ds q
    refine ⟨by simp [toPD, PyData.canLay0, a], ?_⟩
    simp only [toPD, PyData.depth]
    omega
  | n + 1, _, .lst (ds := ds) q => by
    obtain ⟨a, b⟩ := canLays_of (canLay_of_gd n) ds q
    refine ⟨by simp [toPD, PyData.canLay0, a], ?_⟩
    simp only [toPD, PyData.depth]
    omega
theorem shaped_of_gd {d : D} (q : Gd 64 d) : SeqAt.shaped (toPD d) = true := by
  obtain ⟨a, b⟩ := canLay_of_gd 64 d q
  show ((toPD d).canLay0 && decide ((toPD d).depth ≤ 64)) = true
  rw [a, decide_eq_true b]; rfl
mutual
theorem eqv_pd : ∀ (a b : D) (n k : Nat), Gd n a → Gd k b → PyData.eqv (toPD a) (toPD b) = D.eqv a b
  | .non, b, n, k, ha, hb => by cases hb <;> simp [toPD, PyData.eqv, D.eqv]
  | .bl x, b, n, k, ha, hb => by cases hb <;> simp [toPD, PyData.eqv, D.eqv]
  | .int x, b, n, k, ha, hb => by cases hb <;> simp [toPD, PyData.eqv, D.eqv]
  | .str x, b, n, k, ha, hb => by cases hb <;> simp [toPD, PyData.eqv, D.eqv]
  | .tup xs, b, n, k, ha, hb => by
    cases ha with
    | tup qa =>
      cases hb with
      | tup qb => simp only [toPD, PyData.eqv, D.eqv]; exact eqvs_pd xs _ _ _ qa qb
      | _ => simp [toPD, PyData.eqv, D.eqv]
  | .lst xs, b, n, k, ha, hb => by
    cases ha with
    | lst qa =>
      cases hb with
      | lst qb => simp only [toPD, PyData.eqv, D.eqv]; exact eqvs_pd xs _ _ _ qa qb
      | _ => simp [toPD, PyData.eqv, D.eqv]
  | .ref _, _, _, _, ha, _ => nomatch ha
  | .fn _, _, _, _, ha, _ => nomatch ha
  | .exn _, _, _, _, ha, _ => nomatch ha
  | .scr _, _, _, _, ha, _ => nomatch ha
theorem eqvs_pd : ∀ (a b : List D) (n k : Nat), (∀ d ∈ a, Gd n d) → (∀ d ∈ b, Gd k d) → PyData.eqvAll (toPDs a) (toPDs b) = D.eqvs a b
  | [], b, n, k, ha, hb => by cases b <;> simp [toPDs, PyData.eqvAll, D.eqvs]
  | x :: xs, b, n, k, ha, hb => by
    cases b with
    | nil => simp [toPDs, PyData.eqvAll, D.eqvs]
    | cons y ys =>
      simp only [toPDs, PyData.eqvAll, D.eqvs]
      rw [eqv_pd x y n k (ha x List.mem_cons_self) (hb y List.mem_cons_self), eqvs_pd xs ys n k (fun d hd => ha d (List.mem_cons_of_mem _ hd)) fun d hd => hb d (List.mem_cons_of_mem _ hd)]
end
theorem Dps_of {n : Nat} (ih : ∀ (v : V) (d e : D), VD G m H v d → deref h n d = some e → Dp G.K H v (toPD e)) : ∀ (vs : List V) (ds es : List D), VDs G m H vs ds → mapO (deref h n) ds = some es → DpAll G.K H vs (toPDs es)
  | _, [], es, .nil, e => by cases e; exact .nil
  | _, d :: ds, es, .cons a b, e => by
    unfold mapO at e
    split at e
    · rename_i z hz
      split at e
      · rename_i zs hzs
        cases e
        exact .cons (ih _ d z a hz) (Dps_of ih _ ds zs b hzs)
      · cases e
    · cases e
theorem Dp_of (r : HR G m h H) : ∀ (n : Nat) (v : V) (d e : D), VD G m H v d → deref h n d = some e → Dp G.K H v (toPD e)
  | n, _, .non, e, .non, q => by unfold deref at q; cases q; exact .non
  | n, _, .bl b, e, .bl _, q => by unfold deref at q; cases q; exact .bl b
  | n, _, .int i, e, .int _, q => by unfold deref at q; cases q; exact .int i
  | n, _, .str x, e, .str _, q => by
    unfold deref at q
    split at q
    · cases q; exact .str x
    · cases q
  | 0, _, .tup ds, e, _, q => by simp [deref] at q
  | n + 1, _, .tup ds, e, .tup a b, q => by
    unfold deref at q
    split at q
    · rename_i es hes
      cases q
      exact .tup a (Dps_of (Dp_of r n) _ ds es b hes)
    · cases q
  | 0, _, .ref l, e, _, q => by simp [deref] at q
  | n + 1, _, .ref l, e, .ref hl, q => by
    unfold deref at q
    split at q
    · rename_i ds eo
      split at q
      · rename_i es hes
        cases q
        obtain ⟨vs, h1, h2⟩ := r.of hl eo
        exact .lst (.inl (.inl h1)) (Dps_of (Dp_of r n) _ ds es h2 hes)
      · cases q
    · cases q
  | 0, _, .scr ds, e, _, q => by simp [deref] at q
  | n + 1, _, .scr ds, e, .scr a b, q => by
    unfold deref at q
    split at q
    · rename_i es hes
      cases q
      exact .lst a.sq (Dps_of (Dp_of r n) _ ds es b hes)
    · cases q
  | n, _, .fn k, e, _, q => by simp [deref] at q
  | n, _, .exn k, e, _, q => by simp [deref] at q
  | n, _, .lst ds, e, _, q => by simp [deref] at q
end

section
variable {G : Gm} {X : Cx}
theorem opr_weaken {f : Value → Value → Sem Value} {r r' : R2} (o : OpR X f r) (h : ∀ x y H Q, r' x y H Q → r x y H Q) : OpR X f r' := fun pins s σ H x y v u Q I rx ry q => o pins s σ H x y v u Q I rx ry (h x y H Q q)
/-! ### binary operators -/
theorem mulOk_cases {i j : Int} (h : mulOk i j = true) : CMul i j ∨ CMulW i j := by
  unfold mulOk at h
  simp only [Bool.or_eq_true, Bool.and_eq_true, decide_eq_true_eq] at h
  rcases h with (h | h) | h
  · exact .inl (.inl h)
  · exact .inl (.inr h)
  · exact .inr (wide_mul h.1 h.2 (by decide) (by decide) (by decide))
theorem newL_ok {m : List Addr} {H : Hp} {h : PH} {ds : List D} {vs : List V} {Q : VK} {W : WX} {σ : L2.St} (hr : HR G m h H) (hv : VDs G m H vs ds) (hp : post G W σ m H Q (newL ds h)) : ∀ p, H p = none → Q (.ref p) (upd H p (.lst vs)) := fun p hn => by
  have e : Ext G.K m H (m ++ [p]) (upd H p (.lst vs)) := ext_new hn
  refine hp (m ++ [p]) (.ref p) _ e (hr.new hn ⟨vs, upd_same, hv.mono e⟩) (.ref ?_)
  rw [← hr.len, List.getElem?_append_right (Nat.le_refl _)]
  simp
theorem tup_ok {m : List Addr} {H : Hp} {h : PH} {ds : List D} {vs : List V} {Q : VK} {W : WX} {σ : L2.St} (hr : HR G m h H) (hv : VDs G m H vs ds) (hp : post G W σ m H Q (.ok (.tup ds) h)) : ∀ p, H p = none → Q (.ref p) (upd H p (.tup vs)) := fun p hn => by
  have e : Ext G.K m H m (upd H p (.tup vs)) := ext_tup hn
  exact hp m _ _ e (hr.tup hn) (.tup (.inl (.inl upd_same)) (hv.mono e))
theorem op_bin (hK : X.K = G.K) (o : Bop) : OpR X (binaryOp (match o with | .add => .Add | .sub => .Sub | .mul => .Mult | .fdiv => .FloorDiv | .mod => .Mod | .pow => .Pow)) (rB G (binop o)) := by
  intro pins s σ H x y v u Q I rx ry hq
  obtain ⟨m, a, b, h, hr, va, vb, hp⟩ := hq
  unfold binop at hp
  split at hp
  · cases va; cases vb
    exact op_add pins s σ H _ _ v u Q I rx ry ⟨_, _, rfl, rfl, hp m _ H .refl hr (.int _)⟩
  · cases va; cases vb
    rename_i i k
    refine op_add_ib pins s σ H _ _ v u Q I rx ry ⟨_, _, rfl, rfl, ?_⟩
    have := hp m _ H .refl hr (.int _)
    cases k <;> exact this
  · cases va; cases vb
    split at hp
    · rename_i hl
      exact op_add_str pins s σ H _ _ v u Q I rx ry ⟨_, _, rfl, rfl, by rw [← mx_eq]; exact hl, hp m _ H .refl hr (.str _)⟩
    · exact hp.elim
  · cases va with
    | tup ta xa =>
      cases vb with
      | tup tb xb =>
        split at hp
        · rename_i hl
          refine op_catA pins s σ H _ _ v u Q I rx ry ⟨_, _, _, _, rfl, rfl, hK ▸ ta, hK ▸ tb, by rw [xa.len, xb.len, ← mx_eq]; exact hl, fun e => ?_, fun e1 e2 => ?_, fun _ _ p hn => ?_⟩
          · have := xa.nil_iff.mp e
            subst this
            exact hp m _ H .refl hr (.tup tb xb)
          · have := xb.nil_iff.mp e2
            subst this
            rw [List.append_nil] at hp
            exact hp m _ H .refl hr (.tup ta xa)
          · exact tup_ok hr (xa.append xb) hp p hn
        · exact hp.elim
  · cases va with
    | ref la =>
      cases vb with
      | ref lb =>
        split at hp
        · rename_i xs ys e1 e2
          split at hp
          · rename_i hl
            obtain ⟨vs, h1, h2⟩ := hr.of la e1
            obtain ⟨ws, h3, h4⟩ := hr.of lb e2
            exact op_cat pins s σ H _ _ v u Q I rx ry ⟨_, _, _, _, rfl, rfl, h1, h3, by rw [h2.len, h4.len, ← mx_eq]; exact hl, newL_ok hr (h2.append h4) hp⟩
          · exact hp.elim
        · exact hp.elim
  · cases va; cases vb
    exact op_sub pins s σ H _ _ v u Q I rx ry ⟨_, _, rfl, rfl, hp m _ H .refl hr (.int _)⟩
  · cases va; cases vb
    split at hp
    · rename_i hm
      rcases mulOk_cases hm with c | c
      · exact op_mul pins s σ H _ _ v u Q I rx ry ⟨_, _, rfl, rfl, c, hp m _ H .refl hr (.int _)⟩
      · exact op_mulW pins s σ H _ _ v u Q I rx ry ⟨_, _, rfl, rfl, c, hp m _ H .refl hr (.int _)⟩
    · exact hp.elim
  · cases va with
    | ref la =>
      cases vb
      split at hp
      · rename_i xs e1
        split at hp
        · rename_i hl
          obtain ⟨vs, h1, h2⟩ := hr.of la e1
          exact op_rep pins s σ H _ _ v u Q I rx ry ⟨_, _, _, rfl, rfl, h1, hl.1, hl.2.1, by rw [h2.len, ← mx_eq]; exact hl.2.2, newL_ok hr (h2.rep _) hp⟩
        · exact hp.elim
      · exact hp.elim
  · cases va; cases vb
    split at hp
    · rename_i c
      exact op_fdivW pins s σ H _ _ v u Q I rx ry ⟨_, _, rfl, rfl, wide_div c.1 c.2 (by decide) (by decide), hp m _ H .refl hr (.int _)⟩
    · split at hp
      · rename_i c
        exact op_fdivN pins s σ H _ _ v u Q I rx ry ⟨_, _, rfl, rfl, ⟨by omega, c.2⟩, hp m _ H .refl hr (.int _)⟩
      · exact hp.elim
  · cases va; cases vb
    split at hp
    · rename_i c
      exact op_mod pins s σ H _ _ v u Q I rx ry ⟨_, _, rfl, rfl, c, hp m _ H .refl hr (.int _)⟩
    · split at hp
      · rename_i c
        exact op_modN pins s σ H _ _ v u Q I rx ry ⟨_, _, rfl, rfl, by omega, hp m _ H .refl hr (.int _)⟩
      · exact hp.elim
  · cases va; cases vb
    split at hp
    · rename_i c
      exact op_pow pins s σ H _ _ v u Q I rx ry ⟨_, _, rfl, rfl, c, hp m _ H .refl hr (.int _)⟩
    · exact hp.elim
  · exact hp.elim

/-! ### comparisons -/
theorem eqD_some {h : PH} {a b : D} {k : Bool} (e : eqD h a b = some k) : ∃ x y, deref h 64 a = some x ∧ deref h 64 b = some y ∧ k = D.eqv x y := by
  unfold eqD at e
  split at e
  · rename_i x y h1 h2
    cases e
    exact ⟨x, y, h1, h2, rfl⟩
  · cases e
theorem op_eqq (hK : X.K = G.K) (hu : X.A.units + 65 < cLine) : OpR X (compareOp .Eq) (rB G (cmpop .eq)) := by
  intro pins s σ H x y v u Q I rx ry hq
  obtain ⟨m, a, b, h, hr, va, vb, hp⟩ := hq
  have hp' : post G (fun _ _ _ _ => False) [] m H Q (bool? (eqD h a b) h) := by
    cases a <;> cases b <;> exact hp
  cases e : eqD h a b with
  | none => rw [e] at hp'; exact hp'.elim
  | some k =>
    rw [e] at hp'
    obtain ⟨da, db, h1, h2, rfl⟩ := eqD_some e
    refine op_eqD (by omega) pins s σ H x y v u Q I rx ry ⟨toPD da, toPD db, hK ▸ Dp_of hr 64 x a da va h1, hK ▸ Dp_of hr 64 y b db vb h2, shaped_of_gd (deref_good 64 a da h1), shaped_of_gd (deref_good 64 b db h2), ?_⟩
    rw [eqv_pd _ _ 64 64 (deref_good 64 a da h1) (deref_good 64 b db h2)]
    exact hp' m _ H .refl hr (.bl _)
theorem op_neq (hK : X.K = G.K) (hu : X.A.units + 65 < cLine) : OpR X (compareOp .NotEq) (rB G (cmpop .ne)) := by
  intro pins s σ H x y v u Q I rx ry hq
  obtain ⟨m, a, b, h, hr, va, vb, hp⟩ := hq
  have hp' : post G (fun _ _ _ _ => False) [] m H Q (bool? ((eqD h a b).map not) h) := by
    cases a <;> cases b <;> exact hp
  cases e : eqD h a b with
  | none => rw [e] at hp'; exact hp'.elim
  | some k =>
    rw [e] at hp'
    obtain ⟨da, db, h1, h2, rfl⟩ := eqD_some e
    refine op_neD (by omega) pins s σ H x y v u Q I rx ry ⟨toPD da, toPD db, hK ▸ Dp_of hr 64 x a da va h1, hK ▸ Dp_of hr 64 y b db vb h2, shaped_of_gd (deref_good 64 a da h1), shaped_of_gd (deref_good 64 b db h2), ?_⟩
    rw [eqv_pd _ _ 64 64 (deref_good 64 a da h1) (deref_good 64 b db h2)]
    exact hp' m _ H .refl hr (.bl _)
theorem any_pd {x : D} {n : Nat} (hx : Gd 64 x) : ∀ ys : List D, (∀ y ∈ ys, Gd n y) → ((toPDs ys).any fun z => PyData.eqv z (toPD x)) = ys.any fun z => D.eqv z x
  | [], _ => rfl
  | y :: ys, q => by
    simp only [toPDs, List.any_cons]
    rw [eqv_pd y x n 64 (q y List.mem_cons_self) hx, any_pd hx ys fun z hz => q z (List.mem_cons_of_mem _ hz)]
theorem key_of {G : Gm} {m : List Addr} {H : Hp} {x : V} {a k : D} (va : VD G m H x a) (e : keyOf a = some k) : ∃ j : Key, x = kV j ∧ k = keyD j := by
  cases va with
  | int i => cases e; exact ⟨.inl i, rfl, rfl⟩
  | str i => cases e; exact ⟨.inr i, rfl, rfl⟩
  | _ => cases e
theorem look_of {G : Gm} {m : List Addr} {H : Hp} (j : Key) : ∀ {ks : List (Key × V)} {kvs : List (D × D)}, KVD G m H ks kvs → (valV ks j = none ∧ look (keyD j) kvs = none) ∨ ∃ v d, valV ks j = some v ∧ look (keyD j) kvs = some d ∧ VD G m H v d
  | _, _, .nil => .inl ⟨rfl, rfl⟩
  | _, _, .cons (k := k) (v := v) (d := d) a b => by
    by_cases e : k = j
    · subst e
      exact .inr ⟨v, d, valV_pos rfl, by unfold look; rw [if_pos rfl], a⟩
    · have e' : ¬ keyD k = keyD j := fun z => e (keyD_inj z)
      rcases look_of j b with ⟨h1, h2⟩ | ⟨v', d', h1, h2, h3⟩
      · exact .inl ⟨by rw [valV_neg e]; exact h1, by unfold look; rw [if_neg e']; exact h2⟩
      · exact .inr ⟨v', d', by rw [valV_neg e]; exact h1, by unfold look; rw [if_neg e']; exact h2, h3⟩
theorem dct_of {G : Gm} {m : List Addr} {H : Hp} {h : PH} (r : HR G m h H) {v : V} {d : D} {kvs : List (D × D)} (x : VD G m H v d) (e : dctOf h d = some kvs) : ∃ a l ks, v = .ref a ∧ d = .ref l ∧ m[l]? = some a ∧ h[l]? = some (.dct kvs) ∧ H a = some (.dK ks) ∧ KVD G m H ks kvs := by
  cases x with
  | @ref a l hl =>
    have e' : (match h[l]? with
      | some (.dct kvs) => some kvs
      | _ => none) = some kvs := e
    split at e'
    · rename_i ds' eo
      cases e'
      obtain ⟨ks, h1, h2⟩ := r.of hl eo
      exact ⟨_, l, ks, rfl, rfl, hl, eo, h1, h2⟩
    · cases e'
  | _ => cases e
theorem memD_cases {h : PH} {a b : D} {k : Bool} (e : memD h a b = some k) :
    (∃ x y, a = .str x ∧ b = .str y ∧ k = !(PySem.Builtin.Str.occurrences y x 0 y.length 1).isEmpty) ∨ (∃ kvs j, dctOf h b = some kvs ∧ keyOf a = some j ∧ k = (look j kvs).isSome) ∨
    (∃ x ys, deref h 64 a = some x ∧ deref h 64 b = some (.lst ys) ∧ k = ys.any fun z => D.eqv z x) ∨ ∃ x ys, deref h 64 a = some x ∧ deref h 64 b = some (.tup ys) ∧ k = ys.any fun z => D.eqv z x := by
  unfold memD at e
  split at e
  · cases e
    exact .inl ⟨_, _, rfl, rfl, rfl⟩
  · split at e
    · rename_i kvs hk
      split at e
      · rename_i j hj
        cases e
        exact .inr (.inl ⟨kvs, j, hk, hj, rfl⟩)
      · cases e
    · split at e
      · rename_i x ys h1 h2
        cases e
        exact .inr (.inr (.inl ⟨x, ys, h1, h2, rfl⟩))
      · rename_i x ys h1 h2
        cases e
        exact .inr (.inr (.inr ⟨x, ys, h1, h2, rfl⟩))
      · cases e
theorem in_tupD (hu : X.A.units + 65 < cLine) : OpR X (compareOp .In) (fun x y H Q => ∃ d ds, Dp X.K H x d ∧ Dp X.K H y (.tuple ds) ∧ SeqAt.shaped d = true ∧ SeqAt.shaped (.tuple ds) = true ∧ Q (.bl (ds.any fun z => PyData.eqv z d)) H) := by
  intro pins s σ H x y v u Q I rx ry h
  obtain ⟨d, ds, hd, he, sd, se, q⟩ := h
  obtain ⟨as, r1⟩ := Dp.reads I d x v hd rx
  obtain ⟨bs, r2⟩ := Dp.reads I (.tuple ds) y u he ry
  exact SeqAt.in_tuple_reads r2 r1 (SeqAt.canLay_of_shaped se) (SeqAt.canLay_of_shaped sd) (room_in_shaped sd hu) ⟨.bl _, H, I, rfl, q⟩
theorem nin_tupD (hu : X.A.units + 65 < cLine) : OpR X (compareOp .NotIn) (fun x y H Q => ∃ d ds, Dp X.K H x d ∧ Dp X.K H y (.tuple ds) ∧ SeqAt.shaped d = true ∧ SeqAt.shaped (.tuple ds) = true ∧ Q (.bl (!ds.any fun z => PyData.eqv z d)) H) := by
  intro pins s σ H x y v u Q I rx ry h
  obtain ⟨d, ds, hd, he, sd, se, q⟩ := h
  obtain ⟨as, r1⟩ := Dp.reads I d x v hd rx
  obtain ⟨bs, r2⟩ := Dp.reads I (.tuple ds) y u he ry
  exact SeqAt.notIn_tuple_reads r2 r1 (SeqAt.canLay_of_shaped se) (SeqAt.canLay_of_shaped sd) (room_in_shaped sd hu) ⟨.bl _, H, I, rfl, q⟩
theorem op_inq (hK : X.K = G.K) (hu : X.A.units + 65 < cLine) : OpR X (compareOp .In) (rB G (cmpop .ein)) := by
  intro pins s σ H x y v u Q I rx ry hq
  obtain ⟨m, a, b, h, hr, va, vb, hp⟩ := hq
  have hp' : post G (fun _ _ _ _ => False) [] m H Q (bool? (memD h a b) h) := by
    cases a <;> cases b <;> exact hp
  cases e : memD h a b with
  | none => rw [e] at hp'; exact hp'.elim
  | some k =>
    rw [e] at hp'
    rcases memD_cases e with ⟨x', y', rfl, rfl, rfl⟩ | ⟨kvs, j, h1, h2, rfl⟩ | ⟨x', ys, h1, h2, rfl⟩ | ⟨x', ys, h1, h2, rfl⟩
    · cases va; cases vb
      exact op_in_str pins s σ H _ _ v u Q I rx ry ⟨_, _, rfl, rfl, hp' m _ H .refl hr (.bl _)⟩
    · obtain ⟨a', l, ks, rfl, rfl, hl, eo, hH, hk⟩ := dct_of hr vb h1
      obtain ⟨j, rfl, rfl⟩ := key_of va h2
      cases ry
      have hs : (valV ks j).isSome = (look (keyD j) kvs).isSome := by
        rcases look_of j hk with ⟨q1, q2⟩ | ⟨w1, w2, q1, q2, _⟩ <;> rw [q1, q2] <;> rfl
      exact d_in (A := X.A) (by omega) I (DGet.k (k := j) hH) rx fun s' I' => ⟨.bl _, H, I', rfl, by rw [hs]; exact hp' m _ H .refl hr (.bl _)⟩
    · have gx := deref_good 64 a x' h1
      have gy := deref_good 64 b _ h2
      refine op_inD hu pins s σ H x y v u Q I rx ry ⟨toPD x', toPDs ys, hK ▸ Dp_of hr 64 x a x' va h1, hK ▸ (by have := Dp_of hr 64 y b _ vb h2; simpa only [toPD] using this), shaped_of_gd gx, (by have := shaped_of_gd gy; simpa only [toPD] using this), ?_⟩
      cases gy with
      | lst q =>
        rw [any_pd gx ys q]
        exact hp' m _ H .refl hr (.bl _)
    · have gx := deref_good 64 a x' h1
      have gy := deref_good 64 b _ h2
      refine in_tupD hu pins s σ H x y v u Q I rx ry ⟨toPD x', toPDs ys, hK ▸ Dp_of hr 64 x a x' va h1, hK ▸ (by have := Dp_of hr 64 y b _ vb h2; simpa only [toPD] using this), shaped_of_gd gx, (by have := shaped_of_gd gy; simpa only [toPD] using this), ?_⟩
      cases gy with
      | tup q =>
        rw [any_pd gx ys q]
        exact hp' m _ H .refl hr (.bl _)
theorem op_ninq (hK : X.K = G.K) (hu : X.A.units + 65 < cLine) : OpR X (compareOp .NotIn) (rB G (cmpop .nin)) := by
  intro pins s σ H x y v u Q I rx ry hq
  obtain ⟨m, a, b, h, hr, va, vb, hp⟩ := hq
  have hp' : post G (fun _ _ _ _ => False) [] m H Q (bool? ((memD h a b).map not) h) := by
    cases a <;> cases b <;> exact hp
  cases e : memD h a b with
  | none => rw [e] at hp'; exact hp'.elim
  | some k =>
    rw [e] at hp'
    rcases memD_cases e with ⟨x', y', rfl, rfl, rfl⟩ | ⟨kvs, j, h1, h2, rfl⟩ | ⟨x', ys, h1, h2, rfl⟩ | ⟨x', ys, h1, h2, rfl⟩
    · cases va; cases vb
      exact op_notIn_str pins s σ H _ _ v u Q I rx ry ⟨_, _, rfl, rfl, hp' m _ H .refl hr (.bl _)⟩
    · obtain ⟨a', l, ks, rfl, rfl, hl, eo, hH, hk⟩ := dct_of hr vb h1
      obtain ⟨j, rfl, rfl⟩ := key_of va h2
      cases ry
      have hs : (valV ks j).isSome = (look (keyD j) kvs).isSome := by
        rcases look_of j hk with ⟨q1, q2⟩ | ⟨w1, w2, q1, q2, _⟩ <;> rw [q1, q2] <;> rfl
      exact d_notIn (A := X.A) (by omega) I (DGet.k (k := j) hH) rx fun s' I' => ⟨.bl _, H, I', rfl, by rw [hs]; exact hp' m _ H .refl hr (.bl _)⟩
    · have gx := deref_good 64 a x' h1
      have gy := deref_good 64 b _ h2
      refine op_notInD hu pins s σ H x y v u Q I rx ry ⟨toPD x', toPDs ys, hK ▸ Dp_of hr 64 x a x' va h1, hK ▸ (by have := Dp_of hr 64 y b _ vb h2; simpa only [toPD] using this), shaped_of_gd gx, (by have := shaped_of_gd gy; simpa only [toPD] using this), ?_⟩
      cases gy with
      | lst q =>
        rw [any_pd gx ys q]
        exact hp' m _ H .refl hr (.bl _)
    · have gx := deref_good 64 a x' h1
      have gy := deref_good 64 b _ h2
      refine nin_tupD hu pins s σ H x y v u Q I rx ry ⟨toPD x', toPDs ys, hK ▸ Dp_of hr 64 x a x' va h1, hK ▸ (by have := Dp_of hr 64 y b _ vb h2; simpa only [toPD] using this), shaped_of_gd gx, (by have := shaped_of_gd gy; simpa only [toPD] using this), ?_⟩
      cases gy with
      | tup q =>
        rw [any_pd gx ys q]
        exact hp' m _ H .refl hr (.bl _)
/-- the orders of whole numbers -/
theorem op_ord {c : Cop} {op : CmpOp} {p : Int → Int → Bool} (hp : ∀ i j h, cmpop c (.int i) (.int j) h = .ok (.bl (p i j)) h) (hno : ∀ a b h d h', cmpop c a b h = .ok d h' → ∃ i j, a = .int i ∧ b = .int j)
    (hx : ∀ a b h c' h', cmpop c a b h ≠ .exc c' h') (ho : OpR X (compareOp op) (rI0 fun i j => .bl (p i j))) : OpR X (compareOp op) (rB G (cmpop c)) := by
  intro pins s σ H x y v u Q I rx ry hq
  obtain ⟨m, a, b, h, hr, va, vb, hq⟩ := hq
  cases e : cmpop c a b h with
  | stk => rw [e] at hq; exact hq.elim
  | exc c' h' => exact absurd e (hx _ _ _ _ _)
  | ok d h' =>
    obtain ⟨i, j, rfl, rfl⟩ := hno a b h d h' e
    rw [hp] at hq
    cases va; cases vb
    exact ho pins s σ H _ _ v u Q I rx ry ⟨_, _, rfl, rfl, hq m _ H .refl hr (.bl _)⟩
theorem op_ltq : OpR X (compareOp .Lt) (rB G (cmpop .lt)) := op_ord (p := fun i j => decide (i < j)) (fun _ _ _ => rfl) (fun a b h d h' e => by cases a <;> cases b <;> first | exact ⟨_, _, rfl, rfl⟩ | (exact nomatch e)) (fun a b h c' h' e => by cases a <;> cases b <;> exact nomatch e) op_lt
theorem op_leq : OpR X (compareOp .LtE) (rB G (cmpop .le)) := op_ord (p := fun i j => decide (i ≤ j)) (fun _ _ _ => rfl) (fun a b h d h' e => by cases a <;> cases b <;> first | exact ⟨_, _, rfl, rfl⟩ | (exact nomatch e)) (fun a b h c' h' e => by cases a <;> cases b <;> exact nomatch e) op_le
theorem op_gtq : OpR X (compareOp .Gt) (rB G (cmpop .gt)) := op_ord (p := fun i j => decide (j < i)) (fun _ _ _ => rfl) (fun a b h d h' e => by cases a <;> cases b <;> first | exact ⟨_, _, rfl, rfl⟩ | (exact nomatch e)) (fun a b h c' h' e => by cases a <;> cases b <;> exact nomatch e) op_gt
theorem op_geq : OpR X (compareOp .GtE) (rB G (cmpop .ge)) := op_ord (p := fun i j => decide (j ≤ i)) (fun _ _ _ => rfl) (fun a b h d h' e => by cases a <;> cases b <;> first | exact ⟨_, _, rfl, rfl⟩ | (exact nomatch e)) (fun a b h c' h' e => by cases a <;> cases b <;> exact nomatch e) op_ge
end
end Mp

set_option Elab.async false
set_option linter.all false
set_option maxRecDepth 100000
set_option maxHeartbeats 1000000
/-! C4: items, slices, truth, built-in functions and methods. -/
namespace Mp
open PySem PySem.Spec PyProof.Rows L2
section
variable {G : Gm} {X : Cx}
theorem op_isNq : OpR X (compareOp .Is) (fun x y H Q => y = .non ∧ rB G (cmpop .isN) x y H Q) := by
  intro pins s σ H x y v u Q I rx ry hq
  obtain ⟨e, m, a, b, h, hr, va, vb, hp⟩ := hq
  have hp' : post G (fun _ _ _ _ => False) [] m H Q (.ok (.bl (decide (a = .non))) h) := by cases a <;> cases b <;> exact hp
  refine op_isN pins s σ H x y v u Q I rx ry ⟨e, ?_⟩
  have q := hp' m _ H .refl hr (.bl _)
  cases va <;> simpa using q
theorem op_notNq : OpR X (compareOp .IsNot) (fun x y H Q => y = .non ∧ rB G (cmpop .notN) x y H Q) := by
  intro pins s σ H x y v u Q I rx ry hq
  obtain ⟨e, m, a, b, h, hr, va, vb, hp⟩ := hq
  have hp' : post G (fun _ _ _ _ => False) [] m H Q (.ok (.bl (!decide (a = .non))) h) := by cases a <;> cases b <;> exact hp
  refine op_notN pins s σ H x y v u Q I rx ry ⟨e, ?_⟩
  have q := hp' m _ H .refl hr (.bl _)
  cases va <;> simpa using q
theorem op_isBq (c : Bool) : OpR X (compareOp .Is) (fun x y H Q => y = .bl c ∧ rB G (cmpop (.isB c)) x y H Q) := by
  intro pins s σ H x y v u Q I rx ry hq
  obtain ⟨e, m, a, b, h, hr, va, vb, hp⟩ := hq
  subst e
  cases va with
  | bl k => exact op_isBl pins s σ H _ _ v u Q I rx ry ⟨k, c, rfl, rfl, by
      have q : Q (.bl (k == c)) H := hp m _ H .refl hr (.bl _)
      cases k <;> cases c <;> exact q⟩
  | _ => exact hp.elim
theorem op_notBq (c : Bool) : OpR X (compareOp .IsNot) (fun x y H Q => y = .bl c ∧ rB G (cmpop (.notB c)) x y H Q) := by
  intro pins s σ H x y v u Q I rx ry hq
  obtain ⟨e, m, a, b, h, hr, va, vb, hp⟩ := hq
  subst e
  cases va with
  | bl k => exact op_notBl pins s σ H _ _ v u Q I rx ry ⟨k, c, rfl, rfl, by
      have q : Q (.bl (!(k == c))) H := hp m _ H .refl hr (.bl _)
      cases k <;> cases c <;> exact q⟩
  | _ => exact hp.elim

/-! ### items, slices -/
theorem place_ix (n : Nat) (i : Int) : place n i = ixN n i := rfl
theorem item_at {m : List Addr} {H : Hp} {vs : List V} {ds : List D} {i : Int} {d : D} (hv : VDs G m H vs ds) (e : item ds i = some d) : ∃ v, atI vs i = some v ∧ VD G m H v d := by
  unfold item at e
  split at e
  · rename_i j hj
    obtain ⟨v, h1, h2⟩ := hv.get e
    refine ⟨v, ?_, h2⟩
    unfold atI
    rw [place_ix, ← hv.len] at hj
    rw [hj]
    exact h1
  · cases e
theorem ix_all (hK : X.K = G.K) (hu : X.A.units + 65 < cLine) : IxR X (rB G ixop) := by
  intro value slice pins s σ H x y v u Q I rx ry hq hs
  obtain ⟨m, a, b, h, hr, va, vb, hp⟩ := hq
  unfold ixop at hp
  split at hp
  · rename_i i
    cases vb
    split at hp
    · rename_i z
      cases va
      split at hp
      · rename_i hl
        split at hp
        · rename_i j hj
          split at hp
          · rename_i c hc
            refine ix_str value slice pins s σ H _ _ v u Q I rx ry ⟨z, i, c, rfl, rfl, by rw [← mx_eq]; exact hl, ?_, hp m _ H .refl hr (.str _)⟩ hs
            unfold atI
            rw [place_ix] at hj
            rw [hj]
            exact hc
          · exact hp.elim
        · exact hp.elim
      · exact hp.elim
    · split at hp
      · rename_i ds hds
        split at hp
        · rename_i d hd
          obtain ⟨p, vs, rfl, hsq, hv⟩ := seq_of hr va hds
          obtain ⟨w, h1, h2⟩ := item_at hv hd
          rcases hsq with q | q
          · exact ix_list value slice pins s σ H _ _ v u Q I rx ry ⟨p, vs, i, w, rfl, rfl, hK ▸ q, h1, hp m _ H .refl hr h2⟩ hs
          · exact ix_tup value slice pins s σ H _ _ v u Q I rx ry ⟨p, vs, i, w, rfl, rfl, hK ▸ q, h1, hp m _ H .refl hr h2⟩ hs
        · exact hp.elim
      · exact hp.elim
  · exact hp.elim
theorem sIx_eq (n d : Nat) (o : Option Int) : sIx n d o = HT.sIx n d o := by cases o <;> rfl
theorem cut_rel {m : List Addr} {H : Hp} {vs : List V} {ds : List D} (hv : VDs G m H vs ds) (lo hi : Option Int) : VDs G m H (cutV vs lo hi) (cut ds lo hi) := by
  unfold cutV cut
  rw [sIx_eq, sIx_eq, hv.len]
  exact (hv.drop _).take _
/-- slices by values -/
def rSlq (G : Gm) : V → Option Int → Option Int → Hp → VK → Prop := fun x lo hi H Q => ∃ m a h, HR G m h H ∧ VD G m H x a ∧ post G (fun _ _ _ _ => False) [] m H Q (slop a lo hi h)
theorem cut_whole {ds : List D} {lo hi : Option Int} (h1 : HT.sIx ds.length 0 lo = 0) (h2 : HT.sIx ds.length ds.length hi = ds.length) : cut ds lo hi = ds := by
  unfold cut
  rw [sIx_eq, sIx_eq, h1, h2]
  simp
theorem sl_all (hK : X.K = G.K) : SlR X (rSlq G) := by
  intro pins s σ H x v vl vu lo hi sl Q I rx hs pl pu hq
  obtain ⟨m, a, h, hr, va, hp⟩ := hq
  unfold slop at hp
  split at hp
  · cases va with
    | tup ta xa =>
      refine sl_tupA pins s σ H _ v vl vu lo hi sl Q I rx hs pl pu ⟨_, _, rfl, hK ▸ ta, fun ⟨e1, e2⟩ => ?_, fun _ => tup_ok hr (cut_rel xa lo hi) hp⟩
      rw [xa.len] at e1 e2
      rw [cut_whole e1 e2] at hp
      exact hp m _ H .refl hr (.tup ta xa)
  · split at hp
    · rename_i ds hds
      obtain ⟨p, vs, rfl, hsq, hv⟩ := lst_of hr va hds
      exact sl_list pins s σ H _ v vl vu lo hi sl Q I rx hs pl pu ⟨_, _, rfl, hK ▸ hsq, newL_ok hr (cut_rel hv lo hi) hp⟩
    · exact hp.elim

/-! ### truth -/
theorem tru_of (hK : X.K = G.K) {m : List Addr} {H : Hp} {h : PH} {v : V} {d : D} {b : Bool} (hr : HR G m h H) (va : VD G m H v d) (e : tru h d = some b) : TruV X.K v H b := by
  cases va with
  | non => cases e; rfl
  | bl b => cases e; rfl
  | int i => cases e; rfl
  | str x =>
    have e' : (if x.length ≤ mx then some ((x.length : Int) != 0) else none) = some b := e
    split at e'
    · rename_i hl
      cases e'
      exact ⟨by rw [← mx_eq]; exact hl, rfl⟩
    · cases e'
  | tup ta xa =>
    cases e
    exact .inr (.inl ⟨_, hK ▸ ta, by rw [xa.isEmpty]⟩)
  | scr ta xa =>
    cases e
    exact .inl ⟨_, hK ▸ ta.sq, by rw [xa.isEmpty]⟩
  | @ref a l hl =>
    have e' : (match h[l]? with
      | some (.lst ds) => some (!ds.isEmpty)
      | some (.dct kvs) => some (!kvs.isEmpty)
      | _ => none) = some b := e
    split at e'
    · rename_i ds eo
      cases e'
      obtain ⟨vs, h1, h2⟩ := hr.of hl eo
      exact .inl ⟨_, .inl (.inl h1), by rw [h2.isEmpty]⟩
    · rename_i kvs eo
      cases e'
      obtain ⟨ks, h1, h2⟩ := hr.of hl eo
      refine .inr (.inr ⟨ks, h1, ?_⟩)
      cases h2 <;> rfl
    · cases e'
  | fn _ => cases e

/-! ### built-in functions -/
theorem bools_of {m : List Addr} {H : Hp} : ∀ {vs : List V} {ds : List D} {bs : List Bool}, VDs G m H vs ds → bools ds = some bs → vs = bs.map V.bl
  | _, _, bs, .nil, e => by cases e; rfl
  | _, _, bs, .cons (d := d) (ds := ds) a b, e => by
    unfold bools mapO at e
    split at e
    · rename_i y hy
      split at e
      · rename_i ys hys
        cases e
        cases a <;> cases hy
        rw [bools_of b hys]
        rfl
      · cases e
    · cases e
theorem ints_of {m : List Addr} {H : Hp} : ∀ {vs : List V} {ds : List D} {bs : List Int}, VDs G m H vs ds → intsD ds = some bs → vs = bs.map V.int
  | _, _, bs, .nil, e => by cases e; rfl
  | _, _, bs, .cons (d := d) (ds := ds) a b, e => by
    unfold intsD mapO at e
    split at e
    · rename_i y hy
      split at e
      · rename_i ys hys
        cases e
        cases a <;> cases hy
        rw [ints_of b hys]
        rfl
      · cases e
    · cases e
def tyName : Ty → String
  | .int => "int"
  | .bool => "bool"
  | .str => "str"
  | .list => "list"
  | .tuple => "tuple"
  | .dict => "dict"
/-- the built-in functions' names -/
def bname : Bif → Value
  | .len => .builtin "len"
  | .abs => .builtin "abs"
  | .int => .type "int"
  | .list => .type "list"
  | .tuple => .type "tuple"
  | .isi _ => .builtin "isinstance"
  | .max2 => .builtin "max"
  | .min2 => .builtin "min"
  | .all => .builtin "all"
  | .any => .builtin "any"
  | .sum => .builtin "sum"
  | .maxd => .builtin "max"
theorem vals_ref {a : Addr} {m : List Addr} {H : Hp} {vs : List V} {d : D} (h : VDs G m H vs [d]) : ∃ v, vs = [v] ∧ VD G m H v d := by
  cases h with
  | cons a b => cases b; exact ⟨_, rfl, a⟩
theorem vd1 {m : List Addr} {H : Hp} {vs : List V} {d : D} (h : VDs G m H vs [d]) : ∃ v, vs = [v] ∧ VD G m H v d := by
  cases h with
  | cons a b => cases b; exact ⟨_, rfl, a⟩
theorem vd2 {m : List Addr} {H : Hp} {vs : List V} {d e : D} (h : VDs G m H vs [d, e]) : ∃ v w, vs = [v, w] ∧ VD G m H v d ∧ VD G m H w e := by
  cases h with
  | cons a b =>
    obtain ⟨w, rfl, hb⟩ := vd1 b
    exact ⟨_, _, rfl, a, hb⟩
theorem kit_tt {K : PySem.W.Frag} (a b : Ty) : PySem.W.kitOne K (.type (tyName a)) (.type (tyName b)) = some (a == b || (a == .bool && b == .int)) := by
  cases a <;> cases b <;> exact kit_ty (by decide +kernel)
theorem kit_nt {K : PySem.W.Frag} (b : Ty) : PySem.W.kitOne K (.type "NoneType") (.type (tyName b)) = some false := by
  cases b <;> exact kit_ty (by decide +kernel)
theorem isTy_of {m : List Addr} {H : Hp} {h : PH} {v : V} {d : D} {t : Ty} {b : Bool} (hr : HR G m h H) (va : VD G m H v d) (e : isTy h d t = some b) : ∃ c, TyX G.K H v c ∧ PySem.W.kitOne G.K c (.type (tyName t)) = some b := by
  cases va with
  | non => cases e; exact ⟨_, .base .non, kit_nt t⟩
  | bl k => cases e; exact ⟨_, .base (.bl k), by rw [show (Value.type "bool") = .type (tyName .bool) from rfl, kit_tt]; cases t <;> rfl⟩
  | int i => cases e; exact ⟨_, .base (.int i), by rw [show (Value.type "int") = .type (tyName .int) from rfl, kit_tt]; cases t <;> rfl⟩
  | str x => cases e; exact ⟨_, .base (.str x), by rw [show (Value.type "str") = .type (tyName .str) from rfl, kit_tt]; cases t <;> rfl⟩
  | @tup a vs ds ta xa =>
    cases e
    have hk : PySem.W.kitOne G.K (.type "tuple") (.type (tyName t)) = some (decide (t = .tuple)) := by rw [show (Value.type "tuple") = .type (tyName .tuple) from rfl, kit_tt]; cases t <;> rfl
    rcases ta with (q | ⟨ob, q⟩) | ⟨ob, its, n, q, hc, _⟩
    · exact ⟨_, .base (.tup q), hk⟩
    · exact ⟨_, .fTuple q, hk⟩
    · exact ⟨_, .kTuple q hc, hk⟩
  | @scr a vs ds ta xa =>
    cases e
    have hk : PySem.W.kitOne G.K (.type "list") (.type (tyName t)) = some (decide (t = .list)) := by rw [show (Value.type "list") = .type (tyName .list) from rfl, kit_tt]; cases t <;> rfl
    rcases ta with ⟨ob, q⟩ | ⟨ob, its, n, q, hc, _⟩
    · exact ⟨_, .base (.frz q), hk⟩
    · exact ⟨_, .kList q hc, hk⟩
  | @ref a l hl =>
    have e' : (match h[l]? with
      | some (.lst _) => some (decide (t = .list))
      | some (.dct _) => some (decide (t = .dict))
      | _ => none) = some b := e
    split at e'
    · rename_i ds eo
      cases e'
      obtain ⟨vs, h1, h2⟩ := hr.of hl eo
      exact ⟨_, .base (.lst h1), by rw [show (Value.type "list") = .type (tyName .list) from rfl, kit_tt]; cases t <;> rfl⟩
    · rename_i ds eo
      cases e'
      obtain ⟨vs, h1, h2⟩ := hr.of hl eo
      exact ⟨_, .base (.dK h1), by rw [show (Value.type "dict") = .type (tyName .dict) from rfl, kit_tt]; cases t <;> rfl⟩
    · cases e'
  | fn _ => cases e

theorem callr_weaken {f : Value} {r r' : List V → Hp → VK → Prop} (o : CallR X f r) (h : ∀ x H Q, r' x H Q → r x H Q) : CallR X f r' := fun pins s σ H xs us Q I r q => o pins s σ H xs us Q I r (h xs H Q q)
theorem len_ok (hK : X.K = G.K) : CallR X (.builtin "len") (rL G (bfn .len)) := by
  intro pins s σ H xs us Q I r hq
  obtain ⟨m, as, h, hr, va, hp⟩ := hq
  unfold bfn at hp
  split at hp
  all_goals first
    | (rename_i e; cases e; done)
    | skip
  · rename_i x _ _
    obtain ⟨v, rfl, hv⟩ := vd1 va
    cases hv
    split at hp
    · rename_i hl
      exact call_len_str pins s σ H _ us Q I r ⟨_, rfl, by rw [← mx_eq]; exact hl, hp m _ H .refl hr (.int _)⟩
    · exact hp.elim
  · rename_i a _ _ _
    obtain ⟨v, rfl, hv⟩ := vd1 va
    split at hp
    · rename_i ds hds
      obtain ⟨p, vs, rfl, hsq, hvs⟩ := seq_of hr hv hds
      refine call_len_seq pins s σ H _ us Q I r ⟨p, vs, rfl, hK ▸ hsq, ?_⟩
      rw [hvs.len]
      exact hp m _ H .refl hr (.int _)
    · split at hp
      · rename_i kvs hk
        obtain ⟨a', l, ks, rfl, rfl, hl, eo, hH, hkv⟩ := dct_of hr hv hk
        obtain ⟨u, rfl, ru⟩ := vals1 r
        cases ru
        have hlen : ks.length = kvs.length := by
          clear hp hH eo hk
          induction hkv with
          | nil => rfl
          | cons _ _ ih => simp [ih]
        exact d_len I (.inl hH) fun t s' I' => ⟨.int _, H, I', ⟨t, rfl⟩, by rw [hlen]; exact hp m _ H .refl hr (.int _)⟩
      · exact hp.elim
  all_goals exact hp.elim
theorem abs_ok : CallR X (.builtin "abs") (rL G (bfn .abs)) := by
  intro pins s σ H xs us Q I r hq
  obtain ⟨m, as, h, hr, va, hp⟩ := hq
  unfold bfn at hp
  split at hp
  all_goals first
    | (rename_i e; cases e; done)
    | skip
  · obtain ⟨v, rfl, hv⟩ := vd1 va
    cases hv
    exact call_abs pins s σ H _ us Q I r ⟨_, rfl, hp m _ H .refl hr (.int _)⟩
  all_goals exact hp.elim
theorem int_ok : CallR X (.type "int") (rL G (bfn .int)) := by
  intro pins s σ H xs us Q I r hq
  obtain ⟨m, as, h, hr, va, hp⟩ := hq
  unfold bfn at hp
  split at hp
  all_goals first
    | (rename_i e; cases e; done)
    | skip
  · obtain ⟨v, rfl, hv⟩ := vd1 va
    cases hv
    exact call_int1 pins s σ H _ us Q I r (.inl ⟨_, rfl, hp m _ H .refl hr (.int _)⟩)
  · obtain ⟨v, rfl, hv⟩ := vd1 va
    cases hv
    exact call_int1 pins s σ H _ us Q I r (.inr ⟨_, rfl, hp m _ H .refl hr (.int _)⟩)
  all_goals exact hp.elim
theorem list_ok (hK : X.K = G.K) : CallR X (.type "list") (rL G (bfn .list)) := by
  intro pins s σ H xs us Q I r hq
  obtain ⟨m, as, h, hr, va, hp⟩ := hq
  unfold bfn at hp
  split at hp
  all_goals first
    | (rename_i e; cases e; done)
    | skip
  · obtain ⟨v, rfl, hv⟩ := vd1 va
    split at hp
    · rename_i ds hds
      obtain ⟨p, vs, rfl, hsq, hvs⟩ := seq_of hr hv hds
      exact call_list_of pins s σ H _ us Q I r ⟨p, vs, rfl, hK ▸ hsq, newL_ok hr hvs hp⟩
    · exact hp.elim
  all_goals exact hp.elim
theorem tuple_ok' (hK : X.K = G.K) : CallR X (.type "tuple") (rL G (bfn .tuple)) := by
  intro pins s σ H xs us Q I r hq
  obtain ⟨m, as, h, hr, va, hp⟩ := hq
  unfold bfn at hp
  split at hp
  all_goals first
    | (rename_i e; cases e; done)
    | skip
  · obtain ⟨v, rfl, hv⟩ := vd1 va
    cases hv with
    | tup ta xa => exact call_tuple_of pins s σ H _ us Q I r ⟨_, _, rfl, .inr ⟨hK ▸ ta, hp m _ H .refl hr (.tup ta xa)⟩⟩
  · obtain ⟨v, rfl, hv⟩ := vd1 va
    split at hp
    · rename_i ds hds
      obtain ⟨p, vs, rfl, hsq, hvs⟩ := lst_of hr hv hds
      exact call_tuple_of pins s σ H _ us Q I r ⟨p, vs, rfl, .inl ⟨hK ▸ hsq, tup_ok hr hvs hp⟩⟩
    · exact hp.elim
  all_goals exact hp.elim
theorem max_ok (hc : X.calm = true) : CallR X (.builtin "max") (rL G (bfn .max2)) := by
  intro pins s σ H xs us Q I r hq
  obtain ⟨m, as, h, hr, va, hp⟩ := hq
  unfold bfn at hp
  split at hp
  all_goals first
    | (rename_i e; cases e; done)
    | skip
  · obtain ⟨v, w, rfl, hv, hw⟩ := vd2 va
    cases hv; cases hw
    exact call_max2 hc pins s σ H _ us Q I r ⟨_, _, rfl, hp m _ H .refl hr (.int _)⟩
  all_goals exact hp.elim
theorem min_ok (hc : X.calm = true) : CallR X (.builtin "min") (rL G (bfn .min2)) := by
  intro pins s σ H xs us Q I r hq
  obtain ⟨m, as, h, hr, va, hp⟩ := hq
  unfold bfn at hp
  split at hp
  all_goals first
    | (rename_i e; cases e; done)
    | skip
  · obtain ⟨v, w, rfl, hv, hw⟩ := vd2 va
    cases hv; cases hw
    exact call_min2 hc pins s σ H _ us Q I r ⟨_, _, rfl, hp m _ H .refl hr (.int _)⟩
  all_goals exact hp.elim
theorem all_ok (hK : X.K = G.K) (hc : X.calm = true) : CallR X (.builtin "all") (rL G (bfn .all)) := by
  intro pins s σ H xs us Q I r hq
  obtain ⟨m, as, h, hr, va, hp⟩ := hq
  unfold bfn at hp
  split at hp
  all_goals first
    | (rename_i e; cases e; done)
    | skip
  · obtain ⟨v, rfl, hv⟩ := vd1 va
    split at hp
    · rename_i ds hds
      split at hp
      · rename_i bs hbs
        obtain ⟨p, vs, rfl, hsq, hvs⟩ := lst_of hr hv hds
        have := bools_of hvs hbs
        subst this
        exact cr_all hc pins s σ H _ us Q I r ⟨p, bs, rfl, hK ▸ hsq, hp m _ H .refl hr (.bl _)⟩
      · exact hp.elim
    · exact hp.elim
  all_goals exact hp.elim
theorem any_ok (hK : X.K = G.K) (hc : X.calm = true) : CallR X (.builtin "any") (rL G (bfn .any)) := by
  intro pins s σ H xs us Q I r hq
  obtain ⟨m, as, h, hr, va, hp⟩ := hq
  unfold bfn at hp
  split at hp
  all_goals first
    | (rename_i e; cases e; done)
    | skip
  · obtain ⟨v, rfl, hv⟩ := vd1 va
    split at hp
    · rename_i ds hds
      split at hp
      · rename_i bs hbs
        obtain ⟨p, vs, rfl, hsq, hvs⟩ := lst_of hr hv hds
        have := bools_of hvs hbs
        subst this
        exact cr_any hc pins s σ H _ us Q I r ⟨p, bs, rfl, hK ▸ hsq, hp m _ H .refl hr (.bl _)⟩
      · exact hp.elim
    · exact hp.elim
  all_goals exact hp.elim
theorem sum_ok (hK : X.K = G.K) (hc : X.calm = true) : CallR X (.builtin "sum") (rL G (bfn .sum)) := by
  intro pins s σ H xs us Q I r hq
  obtain ⟨m, as, h, hr, va, hp⟩ := hq
  unfold bfn at hp
  split at hp
  all_goals first
    | (rename_i e; cases e; done)
    | skip
  · obtain ⟨v, rfl, hv⟩ := vd1 va
    split at hp
    · rename_i ds hds
      split at hp
      · rename_i bs hbs
        obtain ⟨p, vs, rfl, hsq, hvs⟩ := lst_of hr hv hds
        have := ints_of hvs hbs
        subst this
        exact cr_sum hc pins s σ H _ us Q I r ⟨p, bs, rfl, hK ▸ hsq, hp m _ H .refl hr (.int _)⟩
      · exact hp.elim
    · exact hp.elim
  all_goals exact hp.elim
theorem isi_ok (t : Ty) : CallR X (.builtin "isinstance") (fun xs H Q => ∃ v, xs = [v, .ty (tyName t)] ∧ X.K = G.K ∧ rL G (bfn (.isi t)) [v] H Q) := by
  intro pins s σ H xs us Q I r hq
  obtain ⟨v, rfl, hK, m, as, h, hr, va, hp⟩ := hq
  cases va with
  | cons hv hn =>
    cases hn
    rename_i d
    have hp' : post G (fun _ _ _ _ => False) [] m H Q (bool? (isTy h d t) h) := hp
    cases e : isTy h d t with
    | none => rw [e] at hp'; exact hp'.elim
    | some b =>
      rw [e] at hp'
      obtain ⟨c, h1, h2⟩ := isTy_of hr hv e
      exact call_isi pins s σ H _ us Q I r ⟨v, _, c, _, b, rfl, .ty _, hK ▸ h1, hK ▸ h2, hp' m _ H .refl hr (.bl _)⟩

/-! ### methods of lists and dicts -/
def mname : Mid → Str
  | .append => "append"
  | .extend => "extend"
  | .pop => "pop"
  | .popAt => "pop"
  | .clear => "clear"
  | .reverse => "reverse"
  | .get1 => "get"
  | .get2 => "get"
def rkN : Rk → String
  | .l => "list"
  | .d => "dict"
  | .s => "str"
theorem rk_ty {m : List Addr} {H : Hp} {h : PH} {v : V} {d : D} {k : Rk} (hK : X.K = G.K) (hr : HR G m h H) (va : VD G m H v d) (e : rkOf h d = some k) : tyV X.K (rkN k) v H := by
  cases va with
  | str x => cases e; rfl
  | @ref a l hl =>
    have e' : (match h[l]? with
      | some (.lst _) => some Rk.l
      | some (.dct _) => some Rk.d
      | _ => none) = some k := e
    split at e'
    · rename_i ds eo
      cases e'
      obtain ⟨vs, h1, h2⟩ := hr.of hl eo
      exact .inl ⟨rfl, _, .inl (.inl h1)⟩
    · rename_i ds eo
      cases e'
      obtain ⟨vs, h1, h2⟩ := hr.of hl eo
      exact .inr (.inr (.inl ⟨rfl, .inl ⟨_, h1⟩⟩))
    · cases e'
  | _ => cases e
/-- a method by values -/
def rM (G : Gm) (f : D → List D → PH → Res D) : V → List V → Hp → VK → Prop := fun x xs H Q => ∃ m a as h, HR G m h H ∧ VD G m H x a ∧ VDs G m H xs as ∧ post G (fun _ _ _ _ => False) [] m H Q (f a as h)
theorem upd_post {m : List Addr} {H : Hp} {h : PH} {Q : VK} {W : WX} {σ : L2.St} {l : Nat} {a : Addr} {o o' : O} {u : HO} {v : V} {d : D} (hr : HR G m h H) (hl : m[l]? = some a) (eo : h[l]? = some o) (hw : Wr H a) (hp : post G W σ m H Q (.ok d (h.set l o')))
    (ho : Ext G.K m H m (upd H a u) → OR G m (upd H a u) a o') (hv : VD G m H v d) : Q v (upd H a u) := by
  have e : Ext G.K m H m (upd H a u) := ext_upd hw (List.mem_of_getElem? hl)
  exact hp m v _ e (hr.put hl eo hw (ho e)) (hv.mono e)
theorem append_ok : MtR X "list.append" (rM G (met .append .l)) := by
  intro pins s σ H x xs v us Q I rx rs hq
  obtain ⟨m, a, as, h, hr, va, vs, hp⟩ := hq
  cases va with
  | @ref p l hl =>
    have hp' : post G (fun _ _ _ _ => False) [] m H Q (metL .append l as h) := hp
    unfold metL at hp'
    split at hp'
    all_goals first
      | (rename_i e; cases e; done)
      | skip
    · rename_i d _
      obtain ⟨w, rfl, hw⟩ := vd1 vs
      split at hp'
      · rename_i ds eo
        split at hp'
        · rename_i hlt
          obtain ⟨ws, h1, h2⟩ := hr.of hl eo
          refine mt_append pins s σ H _ _ v us Q I rx rs ⟨p, ws, w, rfl, rfl, h1, by rw [h2.len, ← mx_eq]; exact hlt, ?_⟩
          exact upd_post hr hl eo (wr_lst h1) hp' (fun e => ⟨_, upd_same, (h2.mono e).append (.cons (hw.mono e) .nil)⟩) .non
        · exact hp'.elim
      · exact hp'.elim
    all_goals exact hp'.elim
  | _ => exact hp.elim
theorem extend_ok : MtR X "list.extend" (rM G (met .extend .l)) := by
  intro pins s σ H x xs v us Q I rx rs hq
  obtain ⟨m, a, as, h, hr, va, vs, hp⟩ := hq
  cases va with
  | @ref p l hl =>
    have hp' : post G (fun _ _ _ _ => False) [] m H Q (metL .extend l as h) := hp
    unfold metL at hp'
    split at hp'
    all_goals first
      | (rename_i e; cases e; done)
      | skip
    · obtain ⟨w, rfl, hw⟩ := vd1 vs
      cases hw with
      | @ref p2 l2 hl2 =>
        split at hp'
        · rename_i ds es eo eo2
          split at hp'
          · rename_i hlt
            obtain ⟨ws, h1, h2⟩ := hr.of hl eo
            obtain ⟨zs, h3, h4⟩ := hr.of hl2 eo2
            refine mt_extend pins s σ H _ _ v us Q I rx rs ⟨p, p2, ws, zs, rfl, rfl, h1, h3, by rw [h2.len, h4.len, ← mx_eq]; exact hlt, ?_⟩
            exact upd_post hr hl eo (wr_lst h1) hp' (fun e => ⟨_, upd_same, (h2.mono e).append (h4.mono e)⟩) .non
          · exact hp'.elim
        · exact hp'.elim
    all_goals exact hp'.elim
  | _ => exact hp.elim
theorem pop_ok : MtR X "list.pop" (rM G (met .pop .l)) := by
  intro pins s σ H x xs v us Q I rx rs hq
  obtain ⟨m, a, as, h, hr, va, vs, hp⟩ := hq
  cases va with
  | @ref p l hl =>
    have hp' : post G (fun _ _ _ _ => False) [] m H Q (metL .pop l as h) := hp
    unfold metL at hp'
    split at hp'
    all_goals first
      | (rename_i e; cases e; done)
      | skip
    · cases vs
      split at hp'
      · rename_i ds eo
        split at hp'
        · rename_i d hd
          obtain ⟨ws, h1, h2⟩ := hr.of hl eo
          rw [← h2.len] at hd
          obtain ⟨w, hw, hwd⟩ := h2.get hd
          refine mt_pop pins s σ H _ _ v us Q I rx rs ⟨p, ws, w, rfl, rfl, h1, hw, ?_⟩
          exact upd_post hr hl eo (wr_lst h1) hp' (fun e => ⟨_, upd_same, (h2.mono e).dropLast⟩) hwd
        · exact hp'.elim
      · exact hp'.elim
    all_goals exact hp'.elim
  | _ => exact hp.elim
theorem place_seq {n : Nat} {i : Int} {j : Nat} (e : place n i = some j) : seqIndex? i n = some j ∧ j < n ∧ -(n : Int) ≤ i ∧ i < n := ixN_seq (by rw [← place_ix]; exact e)
theorem popAt_ok : MtR X "list.pop" (rM G (met .popAt .l)) := by
  intro pins s σ H x xs v us Q I rx rs hq
  obtain ⟨m, a, as, h, hr, va, vs, hp⟩ := hq
  cases va with
  | @ref p l hl =>
    have hp' : post G (fun _ _ _ _ => False) [] m H Q (metL .popAt l as h) := hp
    unfold metL at hp'
    split at hp'
    all_goals first
      | (rename_i e; cases e; done)
      | skip
    · obtain ⟨z, rfl, hz⟩ := vd1 vs
      cases hz
      split at hp'
      · rename_i ds eo
        split at hp'
        · rename_i j hj
          split at hp'
          · rename_i d hd
            obtain ⟨ws, h1, h2⟩ := hr.of hl eo
            obtain ⟨hmx, _⟩ : ws.length ≤ sizeLine ∧ True := ⟨(show ObjOk X.prog X.w H s.heap p (.lst ws) from I.hok p _ h1).1, trivial⟩
            have hln := line63
            obtain ⟨q1, q2, q3, q4⟩ := place_seq hj
            obtain ⟨w, hw, hwd⟩ := h2.get hd
            have hlen := h2.len
            refine mt_popAt pins s σ H _ _ v us Q I rx rs ⟨p, ws, _, j, w, rfl, rfl, h1, by omega, by omega, by rw [hlen]; exact q1, hw, ?_⟩
            exact upd_post hr hl eo (wr_lst h1) hp' (fun e => ⟨_, upd_same, (h2.mono e).erase j⟩) hwd
          · exact hp'.elim
        · exact hp'.elim
      · exact hp'.elim
    all_goals exact hp'.elim
  | _ => exact hp.elim
theorem clearL_ok : MtR X "list.clear" (rM G (met .clear .l)) := by
  intro pins s σ H x xs v us Q I rx rs hq
  obtain ⟨m, a, as, h, hr, va, vs, hp⟩ := hq
  cases va with
  | @ref p l hl =>
    have hp' : post G (fun _ _ _ _ => False) [] m H Q (metL .clear l as h) := hp
    unfold metL at hp'
    split at hp'
    all_goals first
      | (rename_i e; cases e; done)
      | skip
    · cases vs
      split at hp'
      · rename_i ds eo
        obtain ⟨ws, h1, h2⟩ := hr.of hl eo
        refine mt_clear pins s σ H _ _ v us Q I rx rs ⟨p, ws, rfl, rfl, h1, ?_⟩
        exact upd_post hr hl eo (wr_lst h1) hp' (fun e => ⟨_, upd_same, .nil⟩) .non
      · exact hp'.elim
    all_goals exact hp'.elim
  | _ => exact hp.elim
theorem reverse_ok : MtR X "list.reverse" (rM G (met .reverse .l)) := by
  intro pins s σ H x xs v us Q I rx rs hq
  obtain ⟨m, a, as, h, hr, va, vs, hp⟩ := hq
  cases va with
  | @ref p l hl =>
    have hp' : post G (fun _ _ _ _ => False) [] m H Q (metL .reverse l as h) := hp
    unfold metL at hp'
    split at hp'
    all_goals first
      | (rename_i e; cases e; done)
      | skip
    · cases vs
      split at hp'
      · rename_i ds eo
        obtain ⟨ws, h1, h2⟩ := hr.of hl eo
        refine mt_reverse pins s σ H _ _ v us Q I rx rs ⟨p, ws, rfl, rfl, h1, ?_⟩
        exact upd_post hr hl eo (wr_lst h1) hp' (fun e => ⟨_, upd_same, (h2.mono e).reverse⟩) .non
      · exact hp'.elim
    all_goals exact hp'.elim
  | _ => exact hp.elim
theorem clearD_ok : MtR X "dict.clear" (rM G (met .clear .d)) := by
  intro pins s σ H x xs v us Q I rx rs hq
  obtain ⟨m, a, as, h, hr, va, vs, hp⟩ := hq
  cases va with
  | @ref p l hl =>
    have hp' : post G (fun _ _ _ _ => False) [] m H Q (metD .clear l as h) := hp
    unfold metD at hp'
    split at hp'
    all_goals first
      | (rename_i e; cases e; done)
      | skip
    · cases vs
      cases rs
      cases rx
      split at hp'
      · rename_i ds eo
        obtain ⟨ws, h1, h2⟩ := hr.of hl eo
        exact d_clear I h1 fun s' I' => ⟨.non, _, I', rfl, upd_post hr hl eo (wr_dK h1) hp' (fun e => ⟨_, upd_same, .nil⟩) .non⟩
      · exact hp'.elim
    all_goals exact hp'.elim
  | _ => exact hp.elim
theorem look_get {m : List Addr} {H : Hp} {ks : List (Key × V)} {kvs : List (D × D)} (j : Key) {x : V} {d : D} (hk : KVD G m H ks kvs) (hx : VD G m H x d) : VD G m H ((valV ks j).getD x) ((look (keyD j) kvs).getD d) := by
  rcases look_of j hk with ⟨h1, h2⟩ | ⟨v, d', h1, h2, h3⟩
  · rw [h1, h2]; exact hx
  · rw [h1, h2]; exact h3
theorem get1_ok (hu : X.A.units + 65 < cLine) : MtR X "dict.get" (rM G (met .get1 .d)) := by
  intro pins s σ H x xs v us Q I rx rs hq
  obtain ⟨m, a, as, h, hr, va, vs, hp⟩ := hq
  cases va with
  | @ref p l hl =>
    have hp' : post G (fun _ _ _ _ => False) [] m H Q (metD .get1 l as h) := hp
    unfold metD at hp'
    split at hp'
    all_goals first
      | (rename_i e; cases e; done)
      | skip
    · obtain ⟨z, rfl, hz⟩ := vd1 vs
      split at hp'
      · rename_i kvs k eo hk
        obtain ⟨ks, h1, h2⟩ := hr.of hl eo
        obtain ⟨j, rfl, rfl⟩ := key_of hz hk
        obtain ⟨u, rfl, ru⟩ := vals1 rs
        cases rx
        exact d_get1 (A := X.A) (by omega) I (DGet.k (k := j) h1) ru fun w' s' I' rw' => ⟨_, H, I', rw', hp' m _ H .refl hr (look_get j h2 .non)⟩
      · exact hp'.elim
    all_goals exact hp'.elim
  | _ => exact hp.elim
theorem get2_ok (hu : X.A.units + 65 < cLine) : MtR X "dict.get" (rM G (met .get2 .d)) := by
  intro pins s σ H x xs v us Q I rx rs hq
  obtain ⟨m, a, as, h, hr, va, vs, hp⟩ := hq
  cases va with
  | @ref p l hl =>
    have hp' : post G (fun _ _ _ _ => False) [] m H Q (metD .get2 l as h) := hp
    unfold metD at hp'
    split at hp'
    all_goals first
      | (rename_i e; cases e; done)
      | skip
    · obtain ⟨z, y, rfl, hz, hy⟩ := vd2 vs
      split at hp'
      · rename_i kvs k eo hk
        obtain ⟨ks, h1, h2⟩ := hr.of hl eo
        obtain ⟨j, rfl, rfl⟩ := key_of hz hk
        obtain ⟨u, w, rfl, ru, rw⟩ := vals2 rs
        cases rx
        exact d_get2 (A := X.A) (by omega) I (DGet.k (k := j) h1) ru rw fun w' s' I' rw' => ⟨_, H, I', rw', hp' m _ H .refl hr (look_get j h2 hy)⟩
      · exact hp'.elim
    all_goals exact hp'.elim
  | _ => exact hp.elim
end
end Mp

set_option Elab.async false
set_option linter.all false
set_option maxRecDepth 100000
set_option maxHeartbeats 1000000
/-! C5: a rule for each form of expression. -/
namespace Mp
open PySem PySem.Spec PyProof.Rows L2
section
variable {G : Gm} {W : WX} {F : Fns} {m m' : List Addr} {H H' : Hp} {h h' : PH} {σ : L2.St} {ρ : Env} {Q : VK}
theorem post_imp {Q' : VK} {r : Res D} (p : post G W σ m H Q r) (i : ∀ v H, Q v H → Q' v H) : post G W σ m H Q' r := by
  cases r with
  | ok d h' => exact fun m2 v H2 e hr vd => i _ _ (p m2 v H2 e hr vd)
  | exc c h' => exact p
  | stk => exact p
theorem posts_imp {Q Q' : List V → Hp → Prop} {r : Res (List D)} (p : posts G W σ m H Q r) (i : ∀ v H, Q v H → Q' v H) : posts G W σ m H Q' r := by
  cases r with
  | ok d h' => exact fun m2 v H2 e hr vd => i _ _ (p m2 v H2 e hr vd)
  | exc c h' => exact p
  | stk => exact p
/-- the end, where the value is there already -/
theorem post_now {v : V} {d : D} (hr : HR G m h H) (vd : VD G m H v d) (p : post G W σ m H Q (.ok d h)) : Q v H := p m v H .refl hr vd
theorem quiet_bin {o : Bop} {a b : D} {c : Nat} : binop o a b h ≠ .exc c h' := by
  intro e
  unfold binop at e
  split at e
  all_goals first
    | (cases e; done)
    | (split at e <;> first | (cases e; done) | (split at e <;> first | (cases e; done) | (simp [newL] at e)))
theorem quiet_bool {o : Option Bool} {c : Nat} : bool? o h ≠ .exc c h' := by
  intro e
  cases o <;> cases e
theorem quiet_cmp {o : Cop} {a b : D} {c : Nat} : cmpop o a b h ≠ .exc c h' := by
  intro e
  unfold cmpop at e
  split at e
  all_goals first
    | (cases e; done)
    | (exact quiet_bool e)
theorem bl_bool {o : Option Bool} {d : D} (e : bool? o h = .ok d h') : ∃ k, d = .bl k := by
  cases o with
  | none => cases e
  | some b => cases e; exact ⟨b, rfl⟩
theorem bl_cmp {o : Cop} {a b d : D} (e : cmpop o a b h = .ok d h') : ∃ k, d = .bl k := by
  unfold cmpop at e
  split at e
  all_goals first
    | (exact bl_bool e)
    | (cases e; done)
    | (cases e; exact ⟨_, rfl⟩)
theorem quiet_ix {a b : D} {c : Nat} : ixop a b h ≠ .exc c h' := by
  intro e
  unfold ixop at e
  split at e
  · split at e
    · split at e
      · split at e
        · split at e <;> cases e
        · cases e
      · cases e
    · split at e
      · split at e <;> cases e
      · cases e
  · cases e
theorem quiet_sl {a : D} {lo hi : Option Int} {c : Nat} : slop a lo hi h ≠ .exc c h' := by
  intro e
  unfold slop at e
  split at e
  · cases e
  · split at e
    · simp [newL] at e
    · cases e
theorem quiet_bfn {b : Bif} {xs : List D} {c : Nat} : bfn b xs h ≠ .exc c h' := by
  intro e
  unfold bfn at e
  split at e
  all_goals first
    | (cases e; done)
    | (exact quiet_bool e)
    | (split at e <;> first | (cases e; done) | (simp [newL] at e; done) | (split at e <;> first | (cases e; done) | (simp [newL] at e)))
theorem quiet_met {o : Mid} {k : Rk} {a : D} {xs : List D} {c : Nat} : met o k a xs h ≠ .exc c h' := by
  intro e
  unfold met at e
  split at e
  · unfold metL at e
    split at e
    all_goals first
      | (cases e; done)
      | (split at e <;> first | (cases e; done) | (split at e <;> first | (cases e; done) | (split at e <;> cases e; done)))
  · unfold metD at e
    split at e
    all_goals first
      | (cases e; done)
      | (split at e <;> cases e; done)
  · cases e
theorem quiet_fld {F : Fns} {a : D} {f : Str} {c : Nat} : fldop F a f h ≠ .exc c h' := by
  intro e
  unfold fldop at e
  split at e
  · split at e
    · split at e <;> cases e
    · cases e
  · cases e

/-- two values, then an operation -/
theorem tE_two {f : D → D → PH → Res D} {a b : Ex} {e : Ex} (he : ∀ ρ h, evE F e ρ h = (evE F a ρ h).bind fun x h => (evE F b ρ h).bind fun y h => f x y h) (hq : ∀ x y h c h', f x y h ≠ .exc c h')
    (hp : tE G W F e σ H Q) : tOp (rB G f) (tE G W F a) (tE G W F b) σ H Q := by
  obtain ⟨m, ρ, h, hr, er, hp⟩ := hp
  rw [he] at hp
  refine ⟨m, ρ, h, hr, er, post_imp (post_bind hp) fun v H1 ⟨m1, d1, h1, e1, hr1, vd1, hp1⟩ => ?_⟩
  refine ⟨m1, ρ, h1, hr1, er.mono e1, post_imp (post_bind hp1) fun u H2 ⟨m2, d2, h2, e2, hr2, vd2, hp2⟩ => ?_⟩
  exact ⟨m2, d1, d2, h2, hr2, vd1.mono e2, vd2, post_quiet (fun c h' => hq _ _ _ _ _) hp2⟩
end

section
variable {G : Gm} {W : WX} {F : Fns} {X : Cx} {e a b c : Expr} {e' a' b' c' : Ex} {pos : Pos}
theorem r_stk : PE X e (tE G W F .stk) := ⟨fun pins s σ H Q I ⟨m, ρ, h, hr, er, hp⟩ => hp.elim⟩
theorem r_var {i : Nat} {x : Str} (hN : X.N[i]? = some x) (hv : Vis X.env.scope x) (hd : (x == ("__debug__" : Str)) = false) (hcd : (x == ("__classdict__" : Str)) = false) : PE X (.Name x pos) (tE G W F (.var i)) := by
  refine (pe_var (i := i) hN hv hd hcd).weaken fun σ H Q ⟨m, ρ, h, hr, er, hp⟩ => ?_
  have hp' : post G W σ m H Q (match ρ[i]? with
    | some (some d) => .ok d h
    | _ => .stk) := hp
  split at hp'
  · rename_i d hd
    obtain ⟨v, h1, h2⟩ := er.2 i d hd
    exact ⟨v, h1, post_now hr h2 hp'⟩
  · exact hp'.elim
/-- a constant of the text -/
theorem r_cst {v : V} {d : D} (hp : PE X e (tC v)) (hv : ∀ m H, VD G m H v d) : PE X e (tE G W F (.cst d)) :=
  hp.weaken fun σ H Q ⟨m, ρ, h, hr, er, hp⟩ => post_now hr (hv m H) hp
theorem r_bin {o : Bop} (hK : X.K = G.K) (ha : PE X a (tE G W F a')) (hb : PE X b (tE G W F b')) : PE X (.BinOp a (match o with | .add => .Add | .sub => .Sub | .mul => .Mult | .fdiv => .FloorDiv | .mod => .Mod | .pow => .Pow) b pos) (tE G W F (.bin o a' b')) :=
  (pe_op (op_bin hK o) ha hb).weaken fun σ H Q hp => tE_two (fun _ _ => rfl) (fun _ _ _ _ _ => quiet_bin) hp
theorem r_neg (ha : PE X a (tE G W F a')) : PE X (.UnaryOp .USub a pos) (tE G W F (.neg a')) := by
  refine (pe_un un_neg ha).weaken fun σ H Q ⟨m, ρ, h, hr, er, hp⟩ => ?_
  refine ⟨m, ρ, h, hr, er, post_imp (post_bind hp) fun v H1 ⟨m1, d1, h1, e1, hr1, vd1, hp1⟩ => ?_⟩
  cases d1 with
  | int i =>
    cases vd1
    exact ⟨i, rfl, post_now hr1 (.int _) hp1⟩
  | _ => exact hp1.elim
theorem r_ix (hK : X.K = G.K) (hu : X.A.units + 65 < cLine) (ha : PE X a (tE G W F a')) (hb : PE X b (tE G W F b')) (hs : PlainIx b) : PE X (.Subscript a b pos) (tE G W F (.ix a' b')) :=
  (pe_ix (ix_all hK hu) ha hb hs).weaken fun σ H Q hp => tE_two (fun _ _ => rfl) (fun _ _ _ _ _ => quiet_ix) hp
/-- behind anything that hands on a plain thing -/
def postR (G : Gm) (W : WX) (σ : L2.St) (m : List Addr) (H : Hp) {α : Type} (Q : α → Hp → Prop) : Res α → Prop
  | .ok a h' => ∀ m' H', Ext G.K m H m' H' → HR G m' h' H' → Q a H'
  | .exc c h' => ∀ m' H', Ext G.K m H m' H' → HR G m' h' H' → W (G.xa c) none σ H'
  | .stk => False
theorem postR_ext {α : Type} {m m' : List Addr} {H H' : Hp} {σ : L2.St} {Q : α → Hp → Prop} {r : Res α} (e : Ext G.K m H m' H') (p : postR G W σ m H Q r) : postR G W σ m' H' Q r := by
  cases r with
  | ok d h' => exact fun m2 H2 e2 => p m2 H2 (e.trans e2)
  | exc c h' => exact fun m2 H2 e2 => p m2 H2 (e.trans e2)
  | stk => exact p
theorem post_bindR {α : Type} {m : List Addr} {H : Hp} {σ : L2.St} {Q : VK} {r : Res α} {f : α → PH → Res D} (p : post G W σ m H Q (r.bind f)) :
    postR G W σ m H (fun a H1 => ∃ m1 h1, Ext G.K m H m1 H1 ∧ HR G m1 h1 H1 ∧ post G W σ m1 H1 Q (f a h1)) r := by
  cases r with
  | ok d h' => exact fun m1 H1 e hr => ⟨m1, h', e, hr, post_ext e p⟩
  | exc c h' => exact p
  | stk => exact p
theorem postR_bind {α : Type} {m : List Addr} {H : Hp} {σ : L2.St} {Q : α → Hp → Prop} {r : Res D} {f : D → PH → Res α} (p : postR G W σ m H Q (r.bind f)) :
    post G W σ m H (fun v H1 => ∃ m1 d h1, Ext G.K m H m1 H1 ∧ HR G m1 h1 H1 ∧ VD G m1 H1 v d ∧ postR G W σ m1 H1 Q (f d h1)) r := by
  cases r with
  | ok d h' => exact fun m1 v H1 e hr vd => ⟨m1, d, h', e, hr, vd, postR_ext e p⟩
  | exc c h' => exact p
  | stk => exact p
theorem postR_imp {α : Type} {m : List Addr} {H : Hp} {σ : L2.St} {Q Q' : α → Hp → Prop} {r : Res α} (p : postR G W σ m H Q r) (i : ∀ v H, Q v H → Q' v H) : postR G W σ m H Q' r := by
  cases r with
  | ok d h' => exact fun m2 H2 e hr => i _ _ (p m2 H2 e hr)
  | exc c h' => exact p
  | stk => exact p
/-- an end of a slice -/
def tO (G : Gm) (W : WX) (F : Fns) (o : Opt) : TO := fun σ H Q => ∃ m ρ h, HR G m h H ∧ ER G m H σ ρ ∧ postR G W σ m H Q (evO F o ρ h)
theorem _root_.L2.PO.weaken {X : Cx} {e : Option Expr} {t t' : TO} (p : PO X e t) (h : ∀ σ H Q, t' σ H Q → t σ H Q) : PO X e t' := ⟨fun pins s σ H Q I q => p.run pins s σ H Q I (h σ H Q q)⟩
theorem ro_none : PO X none (tO G W F .no) := (po_none (X := X)).weaken fun σ H Q ⟨m, ρ, h, hr, er, hp⟩ => hp m H .refl hr
theorem ro_some (ha : PE X a (tE G W F a')) : PO X (some a) (tO G W F (.yes a')) := (po_some ha).weaken fun σ H Q ⟨m, ρ, h, hr, er, hp⟩ => by
  refine ⟨m, ρ, h, hr, er, post_imp (postR_bind hp) fun v H1 ⟨m1, d1, h1, e1, hr1, vd1, hp1⟩ => ?_⟩
  cases d1 with
  | int j => cases vd1; exact ⟨j, rfl, hp1 m1 H1 .refl hr1⟩
  | _ => exact hp1.elim
theorem r_sl {lo hi : Option Expr} {lo' hi' : Opt} {p2 : Pos} (hK : X.K = G.K) (ha : PE X a (tE G W F a')) (hl : PO X lo (tO G W F lo')) (hh : PO X hi (tO G W F hi')) : PE X (.Subscript a (.Slice lo hi none p2) pos) (tE G W F (.sl a' lo' hi')) := by
  refine (pe_slice (sl_all hK) ha hl hh).weaken fun σ H Q ⟨m, ρ, h, hr, er, hp⟩ => ?_
  refine ⟨m, ρ, h, hr, er, post_imp (post_bind hp) fun v H1 ⟨m1, d1, h1, e1, hr1, vd1, hp1⟩ => ?_⟩
  refine ⟨m1, ρ, h1, hr1, er.mono e1, postR_imp (post_bindR hp1) fun l H2 ⟨m2, h2, e2, hr2, hp2⟩ => ?_⟩
  refine ⟨m2, ρ, h2, hr2, er.mono (e1.trans e2), postR_imp (post_bindR hp2) fun u H3 ⟨m3, h3, e3, hr3, hp3⟩ => ?_⟩
  exact ⟨m3, d1, h3, hr3, vd1.mono (e2.trans e3), post_quiet (fun c h' => quiet_sl) hp3⟩

/-! ### arguments, displays -/
theorem ra_nil : PA X [] (tEs G W F .nil) := (pa_nil (X := X)).weaken fun σ H Q ⟨m, ρ, h, hr, er, hp⟩ => hp m [] H .refl hr .nil
theorem ra_cons {es : List Expr} {es' : Exs} (ha : PE X a (tE G W F a')) (hr : PA X es (tEs G W F es')) (hs : starEach (a :: es) X.env = (false, eval a X.env) :: starEach es X.env) : PA X (a :: es) (tEs G W F (.cons a' es')) := by
  refine (pa_cons ha hr hs).weaken fun σ H Q ⟨m, ρ, h, hr, er, hp⟩ => ?_
  refine ⟨m, ρ, h, hr, er, post_imp (posts_bind hp) fun v H1 ⟨m1, d1, h1, e1, hr1, vd1, hp1⟩ => ?_⟩
  refine ⟨m1, ρ, h1, hr1, er.mono e1, posts_imp (posts_binds hp1) fun vs H2 ⟨m2, d2, h2, e2, hr2, vd2, hp2⟩ => ?_⟩
  exact hp2 m2 (v :: vs) H2 .refl hr2 (.cons (vd1.mono e2) vd2)
theorem r_tup {es : List Expr} {es' : Exs} {x1 : Nat} (ha : PA X es (tEs G W F es')) : PE X (.Tuple es x1 pos) (tE G W F (.tup es')) := by
  refine (pe_tup ha).weaken fun σ H Q ⟨m, ρ, h, hr, er, hp⟩ => ?_
  refine ⟨m, ρ, h, hr, er, posts_imp (post_binds hp) fun vs H1 ⟨m1, d1, h1, e1, hr1, vd1, hp1⟩ => ?_⟩
  split at hp1
  · rename_i hl
    exact ⟨by rw [vd1.len, ← mx_eq]; exact hl, tup_ok hr1 vd1 hp1⟩
  · exact hp1.elim
theorem r_lst {es : List Expr} {es' : Exs} (ha : PA X es (tEs G W F es')) : PE X (.List es pos) (tE G W F (.lst es')) := by
  refine (pe_lst ha).weaken fun σ H Q ⟨m, ρ, h, hr, er, hp⟩ => ?_
  refine ⟨m, ρ, h, hr, er, posts_imp (post_binds hp) fun vs H1 ⟨m1, d1, h1, e1, hr1, vd1, hp1⟩ => ?_⟩
  split at hp1
  · rename_i hl
    exact ⟨by rw [vd1.len, ← mx_eq]; exact hl, newL_ok hr1 vd1 hp1⟩
  · exact hp1.elim
theorem r_dct0 : PE X (.Dict [] [] pos) (tE G W F (.dct .nil .nil)) := by
  refine (pe_dnewK (X := X)).weaken fun σ H Q ⟨m, ρ, h, hr, er, hp⟩ => fun p hn => ?_
  have e : Ext G.K m H (m ++ [p]) (upd H p (.dK [])) := ext_new hn
  refine hp (m ++ [p]) (.ref p) _ e (hr.new hn ⟨[], upd_same, .nil⟩) (.ref ?_)
  rw [← hr.len, List.getElem?_append_right (Nat.le_refl _)]
  simp

/-! ### comparisons -/
theorem r_cmp {o : Cop} {op : CmpOp} (ho : OpR X (compareOp op) (rB G (cmpop o))) (ha : PE X a (tE G W F a')) (hb : PE X b (tE G W F b')) (hm : behindInMarks op b = false) : PE X (.Compare a [op] [b] pos) (tE G W F (.cmp o a' b')) :=
  (pe_cmpR ho ha hb hm).weaken fun σ H Q hp => tE_two (fun _ _ => rfl) (fun _ _ _ _ _ => quiet_cmp) hp
/-- a test's reading -/
def tT (G : Gm) (W : WX) (F : Fns) (e : Ex) : TT := fun σ H Q => ∃ m ρ h, HR G m h H ∧ ER G m H σ ρ ∧ postR G W σ m H Q (evB F e ρ h)
theorem rt_stk : PT X e (tT G W F .stk) := ⟨fun pins s σ H Q I ⟨m, ρ, h, hr, er, hp⟩ => hp.elim⟩
theorem tT_two {f : D → D → PH → Res D} {σ : L2.St} {H : Hp} {Q : Bool → Hp → Prop} {e : Ex} (he : ∀ ρ h, evE F e ρ h = (evE F a' ρ h).bind fun x h => (evE F b' ρ h).bind fun y h => f x y h) (hq : ∀ x y h c h', f x y h ≠ .exc c h') (hb : ∀ x y h d h', f x y h = .ok d h' → ∃ k, d = .bl k)
    (hp : tT G W F e σ H Q) : tTest (tOp (rB G f) (tE G W F a') (tE G W F b')) σ H Q := by
  obtain ⟨m, ρ, h, hr, er, hp⟩ := hp
  unfold evB at hp
  rw [he] at hp
  have e0 : ∀ (r : Res D) (g : D → PH → Res D) (k : D → PH → Res Bool), (r.bind g).bind k = r.bind fun x h => (g x h).bind k := fun r g k => by cases r <;> rfl
  rw [e0] at hp
  refine ⟨m, ρ, h, hr, er, post_imp (postR_bind hp) fun v H1 ⟨m1, d1, h1, e1, hr1, vd1, hp1⟩ => ?_⟩
  rw [e0] at hp1
  refine ⟨m1, ρ, h1, hr1, er.mono e1, post_imp (postR_bind hp1) fun u H2 ⟨m2, d2, h2, e2, hr2, vd2, hp2⟩ => ?_⟩
  refine ⟨m2, d1, d2, h2, hr2, vd1.mono e2, vd2, ?_⟩
  cases q : f d1 d2 h2 with
  | stk => rw [q] at hp2; exact hp2
  | exc c h' => exact absurd q (hq _ _ _ _ _)
  | ok d h' =>
    rw [q] at hp2
    obtain ⟨k, rfl⟩ := hb _ _ _ _ _ q
    intro m' w H' e' hr' vd'
    cases vd'
    exact ⟨k, rfl, hp2 m' H' e' hr'⟩
theorem rt_cmp {o : Cop} {op : CmpOp} (ho : OpR X (compareOp op) (rB G (cmpop o))) (ha : PE X a (tE G W F a')) (hb : PE X b (tE G W F b')) (hm : behindInMarks op b = false) : PT X (.Compare a [op] [b] pos) (tT G W F (.cmp o a' b')) :=
  (pt_cmpR ho ha hb hm).weaken fun σ H Q hp => tT_two (fun _ _ => rfl) (fun _ _ _ _ _ => quiet_cmp) (fun _ _ _ _ _ => bl_cmp) hp
/-- a test by its value's truth -/
theorem rt_val (hK : X.K = G.K) (ha : PE X a (tE G W F a')) (he : ∀ whole, isTrue a X.env whole = (do let v ← whole; standAt a.pos; holding [v] (truthy v))) : PT X a (tT G W F a') := by
  refine (pt_truth ha he).weaken fun σ H Q ⟨m, ρ, h, hr, er, hp⟩ => ?_
  refine ⟨m, ρ, h, hr, er, post_imp (postR_bind hp) fun v H1 ⟨m1, d1, h1, e1, hr1, vd1, hp1⟩ => ?_⟩
  split at hp1
  · rename_i b hb
    exact ⟨b, tru_of hK hr1 vd1 hb, hp1 m1 H1 .refl hr1⟩
  · exact hp1.elim
/-- comparisons with None, True, False -/
theorem r_isc {o : Cop} {op : CmpOp} {y : V} {d : D} (ho : OpR X (compareOp op) (fun x z H Q => z = y ∧ rB G (cmpop o) x z H Q)) (ha : PE X a (tE G W F a')) (hb : PE X b (tC y)) (hy : ∀ m H, VD G m H y d) (hm : behindInMarks op b = false) : PE X (.Compare a [op] [b] pos) (tE G W F (.cmp o a' (.cst d))) := by
  refine (pe_cmpR ho ha hb hm).weaken fun σ H Q ⟨m, ρ, h, hr, er, hp⟩ => ?_
  refine ⟨m, ρ, h, hr, er, post_imp (post_bind hp) fun v H1 ⟨m1, d1, h1, e1, hr1, vd1, hp1⟩ => ?_⟩
  exact ⟨rfl, m1, d1, d, h1, hr1, vd1, hy m1 H1, post_quiet (fun _ _ => quiet_cmp) hp1⟩
theorem rt_isc {o : Cop} {op : CmpOp} {y : V} {d : D} (ho : OpR X (compareOp op) (fun x z H Q => z = y ∧ rB G (cmpop o) x z H Q)) (ha : PE X a (tE G W F a')) (hb : PE X b (tC y)) (hy : ∀ m H, VD G m H y d) (hm : behindInMarks op b = false) : PT X (.Compare a [op] [b] pos) (tT G W F (.cmp o a' (.cst d))) := by
  refine (pt_cmpR ho ha hb hm).weaken fun σ H Q hp => ?_
  obtain ⟨m, ρ, h, hr, er, hp⟩ := hp
  have e0 : ∀ (r : Res D) (g : D → PH → Res D) (k : D → PH → Res Bool), (r.bind g).bind k = r.bind fun x h => (g x h).bind k := fun r g k => by cases r <;> rfl
  have hp' : postR G W σ m H Q (((evE F a' ρ h).bind fun x h => cmpop o x d h).bind fun x h => match tru h x with
    | some b => .ok b h
    | none => .stk) := hp
  rw [e0] at hp'
  refine ⟨m, ρ, h, hr, er, post_imp (postR_bind hp') fun v H1 ⟨m1, d1, h1, e1, hr1, vd1, hp1⟩ => ?_⟩
  refine ⟨rfl, m1, d1, d, h1, hr1, vd1, hy m1 H1, ?_⟩
  cases q : cmpop o d1 d h1 with
  | stk => rw [q] at hp1; exact hp1
  | exc c h' => exact absurd q quiet_cmp
  | ok z h' =>
    rw [q] at hp1
    obtain ⟨k, rfl⟩ := bl_cmp q
    intro m' w H' e' hr' vd'
    cases vd'
    exact ⟨k, rfl, hp1 m' H' e' hr'⟩
theorem r_chain {o p : Cop} {op op2 : CmpOp} (ho : OpR X (compareOp op) (rB G (cmpop o))) (ho2 : OpR X (compareOp op2) (rB G (cmpop p))) (ha : PE X a (tE G W F a')) (hb : PE X b (tE G W F b')) (hc : PE X c (tE G W F c')) (hm : behindInMarks op2 c = false) :
    PE X (.Compare a [op, op2] [b, c] pos) (tE G W F (.chain o p a' b' c')) := by
  refine (pe_chain ho ho2 ha hb hc hm).weaken fun σ H Q ⟨m, ρ, h, hr, er, hp⟩ => ?_
  refine ⟨m, ρ, h, hr, er, post_imp (post_bind hp) fun v H1 ⟨m1, d1, h1, e1, hr1, vd1, hp1⟩ => ?_⟩
  refine ⟨m1, ρ, h1, hr1, er.mono e1, post_imp (post_bind hp1) fun u H2 ⟨m2, d2, h2, e2, hr2, vd2, hp2⟩ => ?_⟩
  refine ⟨m2, d1, d2, h2, hr2, vd1.mono e2, vd2, ?_⟩
  cases q : cmpop o d1 d2 h2 with
  | stk => rw [q] at hp2; exact hp2
  | exc c h' => exact absurd q quiet_cmp
  | ok d h' =>
    rw [q] at hp2
    obtain ⟨k, rfl⟩ := bl_cmp q
    intro m' w H' e' hr' vd'
    cases vd'
    refine ⟨k, rfl, ?_⟩
    cases k with
    | false => exact hp2 m' _ H' e' hr' (.bl false)
    | true =>
      have hp3 := post_ext e' hp2
      have hp3' : post G W σ m' H' Q ((evE F c' ρ h').bind fun z h => cmpop p d2 z h) := hp3
      refine ⟨m', ρ, h', hr', er.mono (e1.trans (e2.trans e')), post_imp (post_bind hp3') fun w H3 ⟨m3, d3, h3, e3, hr3, vd3, hp4⟩ => ?_⟩
      exact ⟨m3, d2, d3, h3, hr3, vd2.mono (e'.trans e3), vd3, post_quiet (fun _ _ => quiet_cmp) hp4⟩

/-! ### and, or, not, if -/
theorem r_and {rest : List Expr} (hK : X.K = G.K) (ha : PE X a (tE G W F a')) (hb : PE X (.BoolOp .And (b :: rest) pos) (tE G W F b')) : PE X (.BoolOp .And (a :: b :: rest) pos) (tE G W F (.and a' b')) := by
  refine (pe_andT ha hb).weaken fun σ H Q ⟨m, ρ, h, hr, er, hp⟩ => ?_
  refine ⟨m, ρ, h, hr, er, post_imp (post_bind hp) fun v H1 ⟨m1, d1, h1, e1, hr1, vd1, hp1⟩ => ?_⟩
  split at hp1
  · rename_i q
    exact ⟨true, tru_of hK hr1 vd1 q, by rw [if_pos rfl]; exact ⟨m1, ρ, h1, hr1, er.mono e1, hp1⟩⟩
  · rename_i q
    exact ⟨false, tru_of hK hr1 vd1 q, by rw [if_neg Bool.false_ne_true]; exact post_now hr1 vd1 hp1⟩
  · exact hp1.elim
theorem r_or {rest : List Expr} (hK : X.K = G.K) (ha : PE X a (tE G W F a')) (hb : PE X (.BoolOp .Or (b :: rest) pos) (tE G W F b')) : PE X (.BoolOp .Or (a :: b :: rest) pos) (tE G W F (.or a' b')) := by
  refine (pe_orT ha hb).weaken fun σ H Q ⟨m, ρ, h, hr, er, hp⟩ => ?_
  refine ⟨m, ρ, h, hr, er, post_imp (post_bind hp) fun v H1 ⟨m1, d1, h1, e1, hr1, vd1, hp1⟩ => ?_⟩
  split at hp1
  · rename_i q
    exact ⟨true, tru_of hK hr1 vd1 q, by rw [if_pos rfl]; exact post_now hr1 vd1 hp1⟩
  · rename_i q
    exact ⟨false, tru_of hK hr1 vd1 q, by rw [if_neg Bool.false_ne_true]; exact ⟨m1, ρ, h1, hr1, er.mono e1, hp1⟩⟩
  · exact hp1.elim
theorem r_not (hK : X.K = G.K) (ha : PE X a (tE G W F a')) : PE X (.UnaryOp .Not a pos) (tE G W F (.not a')) := by
  refine (pe_notT ha).weaken fun σ H Q ⟨m, ρ, h, hr, er, hp⟩ => ?_
  refine ⟨m, ρ, h, hr, er, post_imp (post_bind hp) fun v H1 ⟨m1, d1, h1, e1, hr1, vd1, hp1⟩ => ?_⟩
  split at hp1
  · rename_i q
    exact ⟨_, tru_of hK hr1 vd1 q, post_now hr1 (.bl _) hp1⟩
  · exact hp1.elim
theorem evB_and (ρ : Env) (h : PH) : evB F (.and a' b') ρ h = (evB F a' ρ h).bind fun k h => if k = true then evB F b' ρ h else .ok false h := by
  show ((evE F a' ρ h).bind fun x h => match tru h x with
    | some true => evE F b' ρ h
    | some false => .ok x h
    | none => .stk).bind _ = _
  unfold evB
  cases evE F a' ρ h with
  | stk => rfl
  | exc c h' => rfl
  | ok d h' =>
    simp only [Res.bind]
    cases q : tru h' d with
    | none => rfl
    | some k => cases k <;> simp [q]
theorem evB_or (ρ : Env) (h : PH) : evB F (.or a' b') ρ h = (evB F a' ρ h).bind fun k h => if k = true then .ok true h else evB F b' ρ h := by
  show ((evE F a' ρ h).bind fun x h => match tru h x with
    | some true => .ok x h
    | some false => evE F b' ρ h
    | none => .stk).bind _ = _
  unfold evB
  cases evE F a' ρ h with
  | stk => rfl
  | exc c h' => rfl
  | ok d h' =>
    simp only [Res.bind]
    cases q : tru h' d with
    | none => rfl
    | some k => cases k <;> simp [q]
theorem evB_not (ρ : Env) (h : PH) : evB F (.not a') ρ h = (evB F a' ρ h).bind fun k h => .ok (!k) h := by
  show ((evE F a' ρ h).bind fun x h => match tru h x with
    | some b => .ok (D.bl (!b)) h
    | none => .stk).bind _ = _
  unfold evB
  cases evE F a' ρ h with
  | stk => rfl
  | exc c h' => rfl
  | ok d h' =>
    simp only [Res.bind]
    cases q : tru h' d <;> rfl
theorem evB_ite (ρ : Env) (h : PH) : evB F (.ite c' a' b') ρ h = (evB F c' ρ h).bind fun k h => if k = true then evB F a' ρ h else evB F b' ρ h := by
  show ((evE F c' ρ h).bind fun x h => match tru h x with
    | some true => evE F a' ρ h
    | some false => evE F b' ρ h
    | none => .stk).bind _ = _
  unfold evB
  cases evE F c' ρ h with
  | stk => rfl
  | exc c h' => rfl
  | ok d h' =>
    simp only [Res.bind]
    cases q : tru h' d with
    | none => rfl
    | some k => cases k <;> rfl
theorem evE_ite (ρ : Env) (h : PH) : evE F (.ite c' a' b') ρ h = (evB F c' ρ h).bind fun k h => if k = true then evE F a' ρ h else evE F b' ρ h := by
  show ((evE F c' ρ h).bind fun x h => match tru h x with
    | some true => evE F a' ρ h
    | some false => evE F b' ρ h
    | none => .stk) = _
  unfold evB
  cases evE F c' ρ h with
  | stk => rfl
  | exc c h' => rfl
  | ok d h' =>
    simp only [Res.bind]
    cases q : tru h' d with
    | none => rfl
    | some k => cases k <;> rfl
theorem postR_bindR {α β : Type} {m : List Addr} {H : Hp} {σ : L2.St} {Q : β → Hp → Prop} {r : Res α} {f : α → PH → Res β} (p : postR G W σ m H Q (r.bind f)) :
    postR G W σ m H (fun a H1 => ∃ m1 h1, Ext G.K m H m1 H1 ∧ HR G m1 h1 H1 ∧ postR G W σ m1 H1 Q (f a h1)) r := by
  cases r with
  | ok d h' => exact fun m1 H1 e hr => ⟨m1, h', e, hr, postR_ext e p⟩
  | exc c h' => exact p
  | stk => exact p
theorem rt_and {rest : List Expr} (ha : PT X a (tT G W F a')) (hb : PW X (.BoolOp .And (b :: rest) pos) (tT G W F b')) : PW X (.BoolOp .And (a :: b :: rest) pos) (tT G W F (.and a' b')) := by
  refine ⟨fun wh pins s σ H Q I hp => (pw_and ha hb).run wh pins s σ H Q I ?_⟩
  obtain ⟨m, ρ, h, hr, er, hp⟩ := hp
  rw [evB_and] at hp
  refine ⟨m, ρ, h, hr, er, postR_imp (postR_bindR hp) fun k H1 ⟨m1, h1, e1, hr1, hp1⟩ => ?_⟩
  cases k with
  | true => rw [if_pos rfl] at hp1 ⊢; exact ⟨m1, ρ, h1, hr1, er.mono e1, hp1⟩
  | false => rw [if_neg Bool.false_ne_true] at hp1 ⊢; exact hp1 m1 H1 .refl hr1
theorem rt_or {rest : List Expr} (ha : PT X a (tT G W F a')) (hb : PW X (.BoolOp .Or (b :: rest) pos) (tT G W F b')) : PW X (.BoolOp .Or (a :: b :: rest) pos) (tT G W F (.or a' b')) := by
  refine ⟨fun wh pins s σ H Q I hp => (pw_or ha hb).run wh pins s σ H Q I ?_⟩
  obtain ⟨m, ρ, h, hr, er, hp⟩ := hp
  rw [evB_or] at hp
  refine ⟨m, ρ, h, hr, er, postR_imp (postR_bindR hp) fun k H1 ⟨m1, h1, e1, hr1, hp1⟩ => ?_⟩
  cases k with
  | true => rw [if_pos rfl] at hp1 ⊢; exact hp1 m1 H1 .refl hr1
  | false => rw [if_neg Bool.false_ne_true] at hp1 ⊢; exact ⟨m1, ρ, h1, hr1, er.mono e1, hp1⟩
theorem rt_not (ha : PT X a (tT G W F a')) : PT X (.UnaryOp .Not a pos) (tT G W F (.not a')) := by
  refine (pt_not ha).weaken fun σ H Q ⟨m, ρ, h, hr, er, hp⟩ => ?_
  rw [evB_not] at hp
  exact ⟨m, ρ, h, hr, er, postR_imp (postR_bindR hp) fun k H1 ⟨m1, h1, e1, hr1, hp1⟩ => hp1 m1 H1 .refl hr1⟩
theorem r_ite (hc : PT X c (tT G W F c')) (ha : PE X a (tE G W F a')) (hb : PE X b (tE G W F b')) : PE X (.IfExp c a b pos) (tE G W F (.ite c' a' b')) := by
  refine (pe_ifExp hc ha hb).weaken fun σ H Q ⟨m, ρ, h, hr, er, hp⟩ => ?_
  rw [evE_ite] at hp
  refine ⟨m, ρ, h, hr, er, postR_imp (post_bindR hp) fun k H1 ⟨m1, h1, e1, hr1, hp1⟩ => ?_⟩
  cases k with
  | true => rw [if_pos rfl] at hp1 ⊢; exact ⟨m1, ρ, h1, hr1, er.mono e1, hp1⟩
  | false => rw [if_neg Bool.false_ne_true] at hp1 ⊢; exact ⟨m1, ρ, h1, hr1, er.mono e1, hp1⟩

/-! ### calls -/
theorem r_callB {x : Str} {p : Pos} {id : String} {f : Bif} {es : List Expr} {es' : Exs} (ho : CallR X (.builtin id) (rL G (bfn f))) (hg : Gl X x) (hm : X.mg x = none) (hv : bootBuiltins x = some (.builtin id)) (ha : PA X (e :: es) (tEs G W F es'))
    (hn : x ≠ "__name__") (hdb : (x == ("__debug__" : Str)) = false) (he : starEach (e :: es) X.env = (false, eval e X.env) :: starEach es X.env) (hpl : (backTo pos (starEach es X.env)).any (·.1) = false) : PE X (.Call (.Name x p) (e :: es) [] pos) (tE G W F (.bfn f es')) := by
  refine (pe_callB ho hg hm hv ha hn hdb he hpl).weaken fun σ H Q ⟨m, ρ, h, hr, er, hp⟩ => ?_
  exact ⟨m, ρ, h, hr, er, posts_imp (post_binds hp) fun vs H1 ⟨m1, d1, h1, e1, hr1, vd1, hp1⟩ => ⟨m1, d1, h1, hr1, vd1, post_quiet (fun _ _ => quiet_bfn) hp1⟩⟩
theorem r_callTy {x : Str} {p : Pos} {id : String} {f : Bif} {es : List Expr} {es' : Exs} (ho : CallR X (.type id) (rL G (bfn f))) (hg : Gl X x) (hm : X.mg x = none) (hv : bootBuiltins x = some (.type id)) (ha : PA X (e :: es) (tEs G W F es'))
    (hn : x ≠ "__name__") (hdb : (x == ("__debug__" : Str)) = false) (he : starEach (e :: es) X.env = (false, eval e X.env) :: starEach es X.env) (hpl : (backTo pos (starEach es X.env)).any (·.1) = false) : PE X (.Call (.Name x p) (e :: es) [] pos) (tE G W F (.bfn f es')) := by
  refine (pe_callTy ho hg hm hv ha hn hdb he hpl).weaken fun σ H Q ⟨m, ρ, h, hr, er, hp⟩ => ?_
  exact ⟨m, ρ, h, hr, er, posts_imp (post_binds hp) fun vs H1 ⟨m1, d1, h1, e1, hr1, vd1, hp1⟩ => ⟨m1, d1, h1, hr1, vd1, post_quiet (fun _ _ => quiet_bfn) hp1⟩⟩
/-- isinstance(e, T), T a built-in type -/
theorem r_isi {x y : Str} {p p2 : Pos} {t : Ty} (hK : X.K = G.K) (hg : Gl X x) (hm : X.mg x = none) (hv : bootBuiltins x = some (.builtin "isinstance")) (ha : PE X e (tE G W F e')) (hy : PE X (.Name y p2) (tC (.ty (tyName t))))
    (hn : x ≠ "__name__") (hdb : (x == ("__debug__" : Str)) = false) (he : starEach [e, .Name y p2] X.env = [(false, eval e X.env), (false, eval (.Name y p2) X.env)]) :
    PE X (.Call (.Name x p) [e, .Name y p2] [] pos) (tE G W F (.bfn (.isi t) (.cons e' .nil))) := by
  have h2 : starEach [.Name y p2] X.env = [(false, eval (.Name y p2) X.env)] := rfl
  refine (pe_callB (isi_ok (G := G) t) hg hm hv (pa_cons ha (pa_cons hy pa_nil rfl) (by rw [he, h2])) hn hdb (by rw [he, h2]) (by rw [h2]; rfl)).weaken fun σ H Q ⟨m, ρ, h, hr, er, hp⟩ => ?_
  have e0 : evE F (.bfn (.isi t) (.cons e' .nil)) ρ h = (evE F e' ρ h).bind fun x h => bfn (.isi t) [x] h := by
    show ((evE F e' ρ h).bind fun x h => (Res.ok [] h).bind fun xs h => .ok (x :: xs) h).bind _ = _
    cases evE F e' ρ h <;> rfl
  rw [e0] at hp
  refine ⟨m, ρ, h, hr, er, post_imp (post_bind hp) fun v H1 ⟨m1, d1, h1, e1, hr1, vd1, hp1⟩ => ?_⟩
  exact ⟨v, rfl, hK, m1, [d1], h1, hr1, .cons vd1 .nil, post_quiet (fun _ _ => quiet_bfn) hp1⟩
end
end Mp

set_option Elab.async false
set_option linter.all false
set_option maxRecDepth 100000
set_option maxHeartbeats 1000000
/-! C6: calls of defs and methods, fields, instances, methods of built-in types. -/
namespace Mp
open PySem PySem.Spec PyProof.Rows L2
/-- what a def promises: what the interpreter gives -/
def spF (G : Gm) (Fn : Fns) (k : Nat) : Sp := fun vs H Q E => ∃ m args h, HR G m h H ∧ VDs G m H vs args ∧ match Fn.call k args h with
  | .ok d h' => ∀ m' v H', Ext G.K m H m' H' → HR G m' h' H' → VD G m' H' v d → Q v H'
  | .exc c h' => ∀ m' H', Ext G.K m H m' H' → HR G m' h' H' → E (G.xa c) none H'
  | .stk => False
/-- a def that may be called: dfl its defaults -/
structure FnC (G : Gm) (Fn : Fns) (X : Cx) (k : Nat) (dfl : List D) : Prop where
  ex : ∃ (r : Nat) (fd : FuncData) (ps : List Str), FnOk X.prog X.w X.K X.mg X.base (L2N.CX X.prog X.w) r (G.fa k) fd ps (spF G Fn k) ∧ Room (r + 1) X.A ∧ PySem.W.keepIn X.K (.ref (G.fa k)) = true ∧
    ∀ j, ∃ dvs dus, Vals dvs dus ∧ Binds X.K fd ps dus ∧ ∀ m H, VDs G m H dvs (dfl.drop j)
section
variable {G : Gm} {W : WX} {F : Fns} {X : Cx} {e a b c o : Expr} {e' a' b' c' o' : Ex} {pos apos : Pos} {es : List Expr} {es' : Exs}
theorem run_S {k r : Nat} {fd : FuncData} {ps : List Str} {dvs : List V} {dus : List Value} {pins : List (Addr × Obj)} {σ : L2.St} {H : Hp} {s : Shared} {Q : VK} {us : List Value} {vs : List V} {m : List Addr} {args : List D} {h : PH}
    (FO : FnOk X.prog X.w X.K X.mg X.base (L2N.CX X.prog X.w) r (G.fa k) fd ps (spF G F k)) (hr : Room r X.A) (hb : Binds X.K fd ps dus) (hd : Vals dvs dus) (tk : L2N.Takes X W) (I : Inv X pins σ H s) (rv : Vals vs us)
    (hh : HR G m h H) (hv : VDs G m H (vs ++ dvs) args) (hp : post G W σ m H Q (F.call k args h)) : wpAny (model X.prog X.w) X.A (call (.ref (G.fa k)) us) (EP X pins σ Q) X.xe s := by
  refine run_fnSD (E := fun σ => WE W σ) FO hr hb hd (L2N.passAt tk σ) I rv ⟨m, args, h, hh, hv, ?_⟩
  cases q : F.call k args h with
  | stk => rw [q] at hp; exact hp
  | exc c h' => rw [q] at hp; exact hp
  | ok d h' => rw [q] at hp; exact hp
theorem r_call {k : Nat} {x : Str} {p : Pos} {dfl : List D} (j : Nat) (FO : FnC G F X k dfl) (tk : L2N.Takes X W) (hg : Gl X x) (hm : X.mg x = some (.ref (G.fa k))) (ha : PA X (e :: es) (tEs G W F es'))
    (hdb : (x == ("__debug__" : Str)) = false) (he : starEach (e :: es) X.env = (false, eval e X.env) :: starEach es X.env) (hpl : (backTo pos (starEach es X.env)).any (·.1) = false) :
    PE X (.Call (.Name x p) (e :: es) [] pos) (tE G W F (.call k es' (dfl.drop j))) := by
  obtain ⟨r, fd, ps, FO, hr, hk, hb⟩ := FO.ex
  obtain ⟨dvs, dus, hd, hb, hv⟩ := hb j
  refine ⟨fun pins s σ H Q I ⟨m, ρ, h, hh, er, hp⟩ => ?_⟩
  refine wpAny_Call_Name_kw (ld_glob I hg hm ?_ hdb)
  refine PySem.W.callWith_K (h₀ := X.base) I.ok.mod.kin hk (thn (ha.run pos pins s σ H _ I ⟨m, ρ, h, hh, er, post_binds hp⟩) fun us s1 ⟨vs, H1, I1, r, m1, d1, h1, e1, hr1, vd1, hp1⟩ => ⟨I1.kIn, ?_⟩) he hpl
  exact run_S FO (hr.mono (Nat.le_succ _)) hb hd tk I1 r hr1 (vd1.append (hv m1 H1)) hp1
theorem r_call0 {k : Nat} {x : Str} {p : Pos} {dfl : List D} (j : Nat) (FO : FnC G F X k dfl) (tk : L2N.Takes X W) (hg : Gl X x) (hm : X.mg x = some (.ref (G.fa k)))
    (hdb : (x == ("__debug__" : Str)) = false) : PE X (.Call (.Name x p) [] [] pos) (tE G W F (.call k .nil (dfl.drop j))) := by
  obtain ⟨r, fd, ps, FO, hr, hk, hb⟩ := FO.ex
  obtain ⟨dvs, dus, hd, hb, hv⟩ := hb j
  refine ⟨fun pins s σ H Q I ⟨m, ρ, h, hh, er, hp⟩ => ?_⟩
  refine wpAny_Call_Name_kw (ld_glob I hg hm ?_ hdb)
  exact PySem.W.callWith_K0 I.kIn hk (run_S (us := []) (vs := []) FO (hr.mono (Nat.le_succ _)) hb hd tk I .nil hh (hv m H) hp)

/-! ### fields -/
theorem fvd_lookup {m : List Addr} {H : Hp} {f : Str} : ∀ {vs : List (Str × V)} {fs : List (Str × D)}, FVD G m H vs fs → (vs.lookup f = none ∧ fs.lookup f = none) ∨ ∃ v d, vs.lookup f = some v ∧ fs.lookup f = some d ∧ VD G m H v d
  | _, _, .nil => .inl ⟨rfl, rfl⟩
  | _, _, .cons (k := k) (v := v) (d := d) x r => by
    rw [List.lookup_cons, List.lookup_cons]
    cases hb : f == k with
    | true => exact .inr ⟨v, d, rfl, rfl, x⟩
    | false => exact fvd_lookup r
theorem fvd_put {m : List Addr} {H : Hp} {f : Str} {w : V} {e : D} (hw : VD G m H w e) : ∀ {vs : List (Str × V)} {fs : List (Str × D)}, FVD G m H vs fs → FVD G m H (L2.putF f w vs) (putF f e fs)
  | _, _, .nil => .cons hw .nil
  | _, _, .cons (k := k) (v := v) (d := d) x r => by
    unfold L2.putF putF
    by_cases hb : k = f
    · rw [if_pos hb, if_pos hb]; exact .cons hw r
    · rw [if_neg hb, if_neg hb]; exact .cons x (fvd_put hw r)
theorem fvd_len {m : List Addr} {H : Hp} : ∀ {vs : List (Str × V)} {fs : List (Str × D)}, FVD G m H vs fs → vs.length = fs.length
  | _, _, .nil => rfl
  | _, _, .cons _ r => by rw [List.length_cons, List.length_cons, fvd_len r]
theorem fld_of {m : List Addr} {H : Hp} {h : PH} {v : V} {x : D} {f : Str} {d : D} {h' : PH} (hr : HR G m h H) (vd : VD G m H v x) (q : fldop F x f h = .ok d h') :
    ∃ a c dx vs w, v = .ref a ∧ H a = some (.ins (G.ca c) dx vs) ∧ F.fld c f = true ∧ vs.lookup f = some w ∧ VD G m H w d ∧ h' = h := by
  unfold fldop at q
  split at q
  · rename_i l
    split at q
    · rename_i c fs eo
      split at q
      · rename_i d' h1 h2
        cases q
        cases vd with
        | @ref a l hl =>
          obtain ⟨dx, vs, q1, q2, q3⟩ := hr.of hl eo
          rcases fvd_lookup (f := f) q3 with ⟨_, z⟩ | ⟨w, d2, z1, z2, z3⟩
          · rw [h2] at z; cases z
          · rw [h2] at z2; cases z2
            exact ⟨a, c, dx, vs, w, rfl, q1, h1, z1, z3, rfl⟩
      · cases q
    · cases q
  · cases q
theorem r_fld {f : Str} (hf : ∀ c, F.fld c f = true → Cls X.K (G.ca c) ∧ NoAttr X.K (G.ca c) f) (ha : PE X a (tE G W F a')) (hb : attributeBase a f X.env (eval a X.env) = eval a X.env) :
    PE X (.Attribute a f pos) (tE G W F (.fld a' f)) := by
  refine (pe_fld ha hb).weaken fun σ H Q ⟨m, ρ, h, hr, er, hp⟩ => ?_
  refine ⟨m, ρ, h, hr, er, post_imp (post_bind hp) fun v H1 ⟨m1, d1, h1, e1, hr1, vd1, hp1⟩ => ?_⟩
  cases q : fldop F d1 f h1 with
  | stk => rw [q] at hp1; exact hp1.elim
  | exc c h' => exact absurd q quiet_fld
  | ok d h' =>
    rw [q] at hp1
    obtain ⟨p, c, dx, vs, w, rfl, q1, q2, q3, q4, rfl⟩ := fld_of hr1 vd1 q
    obtain ⟨k1, k2⟩ := hf c q2
    exact ⟨p, G.ca c, dx, vs, w, rfl, q1, k1, k2, q3, post_now hr1 q4 hp1⟩

/-! ### methods of own classes, instances -/
theorem evUmt {x : D} {mn : Str} {r : PH → Res (List D)} {h : PH} {m : List Addr} {H : Hp} {σ : L2.St} {Q : VK}
    (hp : post G W σ m H Q (match x with
    | .ref l => (match h[l]? with
      | some (.ins c fs) => (match F.mth c mn, fs.lookup mn with
        | some f, none => (r h).bind fun xs h => F.call f (x :: xs) h
        | _, _ => .stk)
      | _ => .stk)
    | _ => .stk)) : ∃ l c fs f, x = .ref l ∧ h[l]? = some (.ins c fs) ∧ F.mth c mn = some f ∧ fs.lookup mn = none ∧ post G W σ m H Q ((r h).bind fun xs h => F.call f (x :: xs) h) := by
  split at hp
  · rename_i l
    split at hp
    · rename_i c fs eo
      split at hp
      · rename_i f h1 h2
        exact ⟨l, c, fs, f, rfl, eo, h1, h2, hp⟩
      · exact hp.elim
    · exact hp.elim
  · exact hp.elim
theorem r_umt {mn : Str} {pl : Sem Bool} (hf : ∀ c f, F.mth c mn = some f → Cls X.K (G.ca c) ∧ Meth X.K (G.ca c) mn (G.fa f) ∧ FnC G F X f []) (tk : L2N.Takes X W) (ho : PE X o (tE G W F o')) (ha : PA X (e :: es) (tEs G W F es'))
    (hst : starEach (e :: es) X.env = (false, eval e X.env) :: starEach es X.env) (hpl : (backTo pos (starEach es X.env)).any (·.1) = false)
    (ht : eval (.Call (.Attribute o mn apos) (e :: es) [] pos) X.env = (do
      let ov ← eval o X.env
      standAt apos.atName
      let (f, first) ← holding [ov] (getMethod ov mn pl)
      callWith pos f first (backTo pos (starEach (e :: es) X.env)) (backToKw pos (keywordEach [] X.env)))) :
    PE X (.Call (.Attribute o mn apos) (e :: es) [] pos) (tE G W F (.umt o' mn es')) := by
  refine ⟨fun pins s σ H Q I ⟨m, ρ, h, hh, er, hp⟩ => ?_⟩
  refine PySem.W.methodCall_KW (pl := pl) (thn (ho.run pins s σ H _ I ⟨m, ρ, h, hh, er, post_bind hp⟩) fun u s1 ⟨x, H1, I1, rx, m1, d1, h1, e1, hr1, vd1, hp1⟩ => ?_) ht
  obtain ⟨l, c, fs, f, rfl, eo, hm, hl, hp2⟩ := evUmt (r := fun h => evEs F es' ρ h) hp1
  cases vd1 with
  | @ref p l hpl2 =>
    obtain rfl : u = Value.ref p := rx
    obtain ⟨dx, vs, q1, q2, q3⟩ := hr1.of hpl2 eo
    obtain ⟨k1, k2, k3⟩ := hf c f hm
    obtain ⟨r, fd, ps, FO, hr, hk, hb⟩ := k3.ex
    obtain ⟨dvs, dus, hd, hb, hv⟩ := hb 0
    have l2 : vs.lookup mn = none := by
      rcases fvd_lookup (f := mn) q3 with ⟨z, _⟩ | ⟨w, d2, z1, z2, z3⟩
      · exact z
      · rw [hl] at z2; cases z2
    refine getmeth_ok I1 q1 k1 k2 l2 ?_
    refine PySem.W.callWith_K (first := [.ref p]) (h₀ := X.base) I.ok.mod.kin k2.kp (thn (ha.run pos pins s1 σ H1 _ I1 ⟨m1, ρ, h1, hr1, er.mono e1, post_binds hp2⟩) fun us s2 ⟨vs2, H2, I2, r2, m2, d2, h2, e2, hr2, vd2, hp3⟩ => ⟨I2.kIn, ?_⟩) hst hpl
    have hx : VD G m2 H2 (.ref p) (.ref l) := .ref (e2.get hpl2)
    refine run_S (us := .ref p :: us) (vs := .ref p :: vs2) (args := (.ref l :: d2) ++ List.drop 0 []) FO (hr.mono (Nat.le_succ _)) hb hd tk I2 (.cons rfl r2) hr2 ((VDs.cons hx vd2).append (hv m2 H2)) ?_
    rw [List.drop_nil, List.append_nil]
    exact hp3
theorem r_umt0 {mn : Str} {pl : Sem Bool} (hf : ∀ c f, F.mth c mn = some f → Cls X.K (G.ca c) ∧ Meth X.K (G.ca c) mn (G.fa f) ∧ FnC G F X f []) (tk : L2N.Takes X W) (ho : PE X o (tE G W F o'))
    (ht : eval (.Call (.Attribute o mn apos) [] [] pos) X.env = (do
      let ov ← eval o X.env
      standAt apos.atName
      let (f, first) ← holding [ov] (getMethod ov mn pl)
      callWith pos f first (backTo pos (starEach [] X.env)) (backToKw pos (keywordEach [] X.env)))) :
    PE X (.Call (.Attribute o mn apos) [] [] pos) (tE G W F (.umt o' mn .nil)) := by
  refine ⟨fun pins s σ H Q I ⟨m, ρ, h, hh, er, hp⟩ => ?_⟩
  refine PySem.W.methodCall_KW (pl := pl) (thn (ho.run pins s σ H _ I ⟨m, ρ, h, hh, er, post_bind hp⟩) fun u s1 ⟨x, H1, I1, rx, m1, d1, h1, e1, hr1, vd1, hp1⟩ => ?_) ht
  obtain ⟨l, c, fs, f, rfl, eo, hm, hl, hp2⟩ := evUmt (r := fun h => evEs F .nil ρ h) hp1
  cases vd1 with
  | @ref p l hpl2 =>
    obtain rfl : u = Value.ref p := rx
    obtain ⟨dx, vs, q1, q2, q3⟩ := hr1.of hpl2 eo
    obtain ⟨k1, k2, k3⟩ := hf c f hm
    obtain ⟨r, fd, ps, FO, hr, hk, hb⟩ := k3.ex
    obtain ⟨dvs, dus, hd, hb, hv⟩ := hb 0
    have l2 : vs.lookup mn = none := by
      rcases fvd_lookup (f := mn) q3 with ⟨z, _⟩ | ⟨w, d2, z1, z2, z3⟩
      · exact z
      · rw [hl] at z2; cases z2
    refine getmeth_ok I1 q1 k1 k2 l2 ?_
    have hx : VD G m1 H1 (.ref p) (.ref l) := .ref hpl2
    refine PySem.W.callWith_K0 (first := [.ref p]) I1.kIn k2.kp (run_S (us := [.ref p]) (vs := [.ref p]) (args := (.ref l :: []) ++ List.drop 0 []) FO (hr.mono (Nat.le_succ _)) hb hd tk I1 (.cons rfl .nil) hr1 ((VDs.cons hx .nil).append (hv m1 H1)) ?_)
    rw [List.drop_nil, List.append_nil]
    exact hp2
/-- a new instance -/
theorem HR.ins {m : List Addr} {h : PH} {H : Hp} {x dx : Addr} {c : Nat} (r : HR G m h H) (hx : H x = none) (hd : H dx = none) (ne : dx ≠ x) :
    Ext G.K m H (m ++ [x]) (upd (upd H dx (.own x)) x (.ins (G.ca c) dx [])) ∧ HR G (m ++ [x]) (h ++ [.ins c []]) (upd (upd H dx (.own x)) x (.ins (G.ca c) dx [])) := by
  have r1 : HR G m h (upd H dx (.own x)) := ⟨r.len, r.nd, fun l a o ea eo => (r.obj l a o ea eo).keep (ext_tup hd) ((r.obj l a o ea eo).ne_free hd) (.inl hd)⟩
  have hx1 : upd H dx (.own x) x = none := by rw [upd_ne (Ne.symm ne)]; exact hx
  have e1 : Ext G.K m H m (upd H dx (.own x)) := ext_tup hd
  have e2 : Ext G.K m (upd H dx (.own x)) (m ++ [x]) (upd (upd H dx (.own x)) x (.ins (G.ca c) dx [])) := ext_new hx1
  exact ⟨e1.trans e2, r1.new hx1 ⟨dx, [], upd_same, by rw [upd_ne ne]; exact upd_same, .nil⟩⟩
theorem run_makeS {C f : Addr} {k : Nat} {fd : FuncData} {ps : List Str} {sp : Sp} {ds : List Value} {dvs : List V} {E : XK} {CX : CXT} {pins : List (Addr × Obj)} {σ : L2.St} {H : Hp} {s : Shared} {Q : VK} {us : List Value} {vs : List V} (M : Mk X.K C f) (FO : FnOk X.prog X.w X.K X.mg X.base CX k f fd ps sp) (hr : Room (k + 1) X.A) (hb : Binds X.K fd ps ds) (hd : Vals dvs ds)
    (hx : PassesAt CX X σ E) (I : Inv X pins σ H s) (r : Vals vs us)
    (h : ∀ x dx, H x = none → H dx = none → dx ≠ x → sp (.ref x :: (vs ++ dvs)) (upd (upd H dx (.own x)) x (.ins C dx [])) (fun v H2 => v = .non ∧ Q (.ref x) H2) E) :
    wpAny (model X.prog X.w) X.A (call (.ref C) us) (EP X pins σ Q) X.xe s := by
  have hq := h (s.heap.objs.size + 1) s.heap.objs.size (I.hok.fresh (Nat.le_succ _)) (I.hok.fresh (Nat.le_refl _)) (Nat.ne_of_lt (Nat.lt_succ_self _))
  have I2 := Inv.made (C := C) I
  have r2 : Vals (V.ref (s.heap.objs.size + 1) :: (vs ++ dvs)) (Value.ref (s.heap.objs.size + 1) :: (us ++ ds)) := .cons rfl (r.append hd)
  have hl : (Value.ref (s.heap.objs.size + 1) :: us ++ ds).length = ps.length := by
    have e := r2.length
    rw [FO.len _ _ _ _ hq] at e
    exact e.symm
  refine wpAny_call (make_map (f := f) I.kIn M.makes M.init (beq_iff_eq.mp M.fn) (codeAny_mono (FO.run _ X.stack _ _ ⟨Value.ref (s.heap.objs.size + 1) :: us, []⟩ (Value.ref (s.heap.objs.size + 1) :: (us ++ ds)) _ _ E (hr.make C us [])
    (I2.env0.make C us []) (hb _ (Value.ref (s.heap.objs.size + 1) :: us) I2.kIn hl) r2 hq) fun r s' hq' => ?_))
  cases r with
  | error e => exact hx pins _ _ e s' I2 hq'
  | ok fl =>
    cases fl with
    | ret u =>
      obtain ⟨v, H', I3, rv, ev, q3⟩ := I2.after hq'
      subst ev
      exact ⟨rv, ⟨V.ref (s.heap.objs.size + 1), H', I3, rfl, q3⟩⟩
    | next => exact False.elim hq'
    | brk => exact False.elim hq'
    | cont => exact False.elim hq'
theorem r_mk {c k : Nat} {x : Str} {p : Pos} {dfl : List D} (j : Nat) (hi : F.ini c = some k) (M : Mk X.K (G.ca c) (G.fa k)) (FO : FnC G F X k dfl) (tk : L2N.Takes X W) (hg : Gl X x) (hm : X.mg x = some (.ref (G.ca c))) (ha : PA X (e :: es) (tEs G W F es')) (hj : dfl.drop j = [])
    (hdb : (x == ("__debug__" : Str)) = false) (he : starEach (e :: es) X.env = (false, eval e X.env) :: starEach es X.env) (hpl : (backTo pos (starEach es X.env)).any (·.1) = false) :
    PE X (.Call (.Name x p) (e :: es) [] pos) (tE G W F (.mk c es')) := by
  obtain ⟨r, fd, ps, FO, hr, hk, hb⟩ := FO.ex
  obtain ⟨dvs, dus, hd, hb, hv⟩ := hb j
  refine ⟨fun pins s σ H Q I ⟨m, ρ, h, hh, er, hp⟩ => ?_⟩
  refine wpAny_Call_Name_kw (ld_glob I hg hm ?_ hdb)
  refine PySem.W.callWith_K (h₀ := X.base) I.ok.mod.kin M.kp (thn (ha.run pos pins s σ H _ I ⟨m, ρ, h, hh, er, post_binds hp⟩) fun us s1 ⟨vs, H1, I1, r, m1, d1, h1, e1, hr1, vd1, hp1⟩ => ⟨I1.kIn, ?_⟩) he hpl
  refine run_makeS M FO hr hb hd (E := WE W σ) (L2N.passAt tk σ) I1 r fun x dx nx ndx ne => ?_
  obtain ⟨e2, r2⟩ := HR.ins (c := c) hr1 nx ndx ne
  have hlen := hr1.len
  have hx : VD G (m1 ++ [x]) (upd (upd H1 dx (.own x)) x (.ins (G.ca c) dx [])) (.ref x) (.ref h1.length) := .ref (by rw [← hlen, List.getElem?_append_right (Nat.le_refl _)]; simp)
  refine ⟨_, .ref h1.length :: (d1 ++ dfl.drop j), _, r2, .cons hx ((vd1.mono e2).append (hv _ _)), ?_⟩
  have hp2 : post G W σ m1 H1 Q (match F.ini c with
    | some f => (F.call f (.ref h1.length :: d1) (h1 ++ [.ins c []])).bind fun r h' => if r = .non then .ok (.ref h1.length) h' else .stk
    | none => .stk) := hp1
  rw [hi] at hp2
  dsimp only at hp2
  rw [hj, List.append_nil]
  have hp3 := post_ext e2 hp2
  cases q : F.call k (.ref h1.length :: d1) (h1 ++ [.ins c []]) with
  | stk => rw [q] at hp3; exact hp3
  | exc c h' => rw [q] at hp3; exact hp3
  | ok d h' =>
    rw [q] at hp3
    intro m' v H' e3 hr3 vd3
    have hp4 : post G W σ _ _ Q (if d = .non then .ok (.ref h1.length) h' else .stk) := hp3
    split at hp4
    · rename_i hd
      subst hd
      cases vd3
      exact ⟨rfl, hp4 m' (.ref x) H' e3 hr3 (hx.mono e3)⟩
    · exact hp4.elim
theorem r_mk0 {c k : Nat} {x : Str} {p : Pos} {dfl : List D} (j : Nat) (hi : F.ini c = some k) (M : Mk X.K (G.ca c) (G.fa k)) (FO : FnC G F X k dfl) (tk : L2N.Takes X W) (hg : Gl X x) (hm : X.mg x = some (.ref (G.ca c))) (hj : dfl.drop j = [])
    (hdb : (x == ("__debug__" : Str)) = false) : PE X (.Call (.Name x p) [] [] pos) (tE G W F (.mk c .nil)) := by
  obtain ⟨r, fd, ps, FO, hr, hk, hb⟩ := FO.ex
  obtain ⟨dvs, dus, hd, hb, hv⟩ := hb j
  refine ⟨fun pins s σ H Q I ⟨m1, ρ, h1, hr1, er, hp1⟩ => ?_⟩
  refine wpAny_Call_Name_kw (ld_glob I hg hm ?_ hdb)
  refine PySem.W.callWith_K0 I.kIn M.kp (run_makeS (us := []) (vs := []) M FO hr hb hd (E := WE W σ) (L2N.passAt tk σ) I .nil fun x dx nx ndx ne => ?_)
  obtain ⟨e2, r2⟩ := HR.ins (c := c) hr1 nx ndx ne
  have hlen := hr1.len
  have hx : VD G (m1 ++ [x]) (upd (upd H dx (.own x)) x (.ins (G.ca c) dx [])) (.ref x) (.ref h1.length) := .ref (by rw [← hlen, List.getElem?_append_right (Nat.le_refl _)]; simp)
  refine ⟨_, .ref h1.length :: ([] ++ dfl.drop j), _, r2, .cons hx (VDs.append .nil (hv _ _)), ?_⟩
  have hp2 : post G W σ m1 H Q (match F.ini c with
    | some f => (F.call f (.ref h1.length :: []) (h1 ++ [.ins c []])).bind fun r h' => if r = .non then .ok (.ref h1.length) h' else .stk
    | none => .stk) := hp1
  rw [hi] at hp2
  dsimp only at hp2
  rw [hj, List.append_nil]
  have hp3 := post_ext e2 hp2
  cases q : F.call k (.ref h1.length :: []) (h1 ++ [.ins c []]) with
  | stk => rw [q] at hp3; exact hp3
  | exc c h' => rw [q] at hp3; exact hp3
  | ok d h' =>
    rw [q] at hp3
    intro m' v H' e3 hr3 vd3
    have hp4 : post G W σ _ _ Q (if d = .non then .ok (.ref h1.length) h' else .stk) := hp3
    split at hp4
    · rename_i hd
      subst hd
      cases vd3
      exact ⟨rfl, hp4 m' (.ref x) H' e3 hr3 (hx.mono e3)⟩
    · exact hp4.elim

/-! ### methods of built-in types -/
theorem mid_ok (hu : X.A.units + 65 < cLine) {f : Mid} {k : Rk} {id : String} (h : midId f k = some id) : PlainAttrs (rkN k) ∧ Slot (rkN k) (mname f) id ∧ typeOf (.builtin id) = pure (.type "method_descriptor") ∧ MtR X id (rM G (met f k)) := by
  cases f <;> cases k <;> first
    | (cases h; done)
    | (cases h; exact ⟨PySem.F.plainAttrs_list, PySem.F.slot_list_append, PySem.F.type_list_append, append_ok⟩)
    | (cases h; exact ⟨PySem.F.plainAttrs_list, PySem.F.slot_list_extend, PySem.F.type_list_extend, extend_ok⟩)
    | (cases h; exact ⟨PySem.F.plainAttrs_list, PySem.F.slot_list_pop, PySem.F.type_list_pop, pop_ok⟩)
    | (cases h; exact ⟨PySem.F.plainAttrs_list, PySem.F.slot_list_pop, PySem.F.type_list_pop, popAt_ok⟩)
    | (cases h; exact ⟨PySem.F.plainAttrs_list, PySem.F.slot_list_clear, PySem.F.type_list_clear, clearL_ok⟩)
    | (cases h; exact ⟨PySem.F.plainAttrs_list, PySem.F.slot_list_reverse, PySem.F.type_list_reverse, reverse_ok⟩)
    | (cases h; exact ⟨PySem.F.plainAttrs_dict, PySem.F.slot_dict_clear, PySem.F.type_dict_clear, clearD_ok⟩)
    | (cases h; exact ⟨PySem.F.plainAttrs_dict, PySem.F.slot_dict_get, PySem.F.type_dict_get, get1_ok hu⟩)
    | (cases h; exact ⟨PySem.F.plainAttrs_dict, PySem.F.slot_dict_get, PySem.F.type_dict_get, get2_ok hu⟩)
theorem met_some {f : Mid} {x : D} {r : PH → Res (List D)} {h : PH} {m : List Addr} {H : Hp} {σ : L2.St} {Q : VK}
    (hp : post G W σ m H Q (match rkOf h x with
      | some k => if (midId f k).isSome = true then (r h).bind fun xs h => met f k x xs h else .stk
      | none => .stk)) : ∃ k id, rkOf h x = some k ∧ midId f k = some id ∧ post G W σ m H Q ((r h).bind fun xs h => met f k x xs h) := by
  split at hp
  · rename_i k hk
    split at hp
    · rename_i hs
      obtain ⟨id, hid⟩ := Option.isSome_iff_exists.mp hs
      exact ⟨k, id, hk, hid, hp⟩
    · exact hp.elim
  · exact hp.elim
theorem r_met {f : Mid} (hK : X.K = G.K) (hu : X.A.units + 65 < cLine) (ho : PE X o (tE G W F o')) (ha : PA X (e :: es) (tEs G W F es'))
    (hbase : attributeBase o (mname f) X.env (eval o X.env) = eval o X.env)
    (hfew : ((backTo pos (starEach (e :: es) X.env)).all (fun x => !x.1) && (backToKw pos (keywordEach [] X.env)).all (fun x => x.1.isSome)
      && decide ((e :: es).length + ([] : List Keyword).length + (if ([] : List Keyword).isEmpty then 0 else 1) < 30)) = true)
    (hline : (apos.endLine == pos.line) = true) (hst : starEach (e :: es) X.env = (false, eval e X.env) :: starEach es X.env) (hplain : (backTo pos (starEach es X.env)).any (·.1) = false) :
    PE X (.Call (.Attribute o (mname f) apos) (e :: es) [] pos) (tE G W F (.met f o' es')) := by
  refine ⟨fun pins s σ H Q I ⟨m, ρ, h, hh, er, hp⟩ => ?_⟩
  refine wpAny_Call_method_late hbase hfew hline rfl (thn (ho.run pins s σ H _ I ⟨m, ρ, h, hh, er, post_bind hp⟩) fun v s1 ⟨x, H1, I1, rx, m1, d1, h1, e1, hr1, vd1, hp1⟩ => ?_)
  obtain ⟨k, id, q, q2, hp2⟩ := met_some (r := fun h => evEs F es' ρ h) hp1
  obtain ⟨k1, k2, k3, k4⟩ := mid_ok (G := G) (X := X) hu q2
  obtain ⟨t1, t2⟩ := tyV_is I1 rx (rk_ty hK hr1 vd1 q)
  refine ⟨rkN k, id, k1, k2, k3, t1, t2, ?_⟩
  have hA := ha.run pos pins s1 σ H1 _ I1 ⟨m1, ρ, h1, hr1, er.mono e1, post_binds hp2⟩
  rw [hst] at hA ⊢
  refine Calls.callWith_builtin (by show (false || (backTo pos (starEach es X.env)).any (·.1)) = false; rw [hplain] <;> rfl) (Calls.evalArgs_plain ?_)
  exact thn hA fun us s2 ⟨vs, H2, I2, r2, m2, d2, h2, e2, hr2, vd2, hp3⟩ => k4 pins s2 σ H2 x vs v us Q I2 rx r2 ⟨m2, d1, d2, h2, hr2, vd1.mono e2, vd2, post_quiet (fun _ _ => quiet_met) hp3⟩
theorem r_met0 {f : Mid} (hK : X.K = G.K) (hu : X.A.units + 65 < cLine) (ho : PE X o (tE G W F o'))
    (hbase : attributeBase o (mname f) X.env (eval o X.env) = eval o X.env) (hline : (apos.endLine == pos.line) = true) :
    PE X (.Call (.Attribute o (mname f) apos) [] [] pos) (tE G W F (.met f o' .nil)) := by
  refine ⟨fun pins s σ H Q I ⟨m, ρ, h, hh, er, hp⟩ => ?_⟩
  refine wpAny_Call_method0_late hbase hline (thn (ho.run pins s σ H _ I ⟨m, ρ, h, hh, er, post_bind hp⟩) fun v s1 ⟨x, H1, I1, rx, m1, d1, h1, e1, hr1, vd1, hp1⟩ => ?_)
  obtain ⟨k, id, q, q2, hp2⟩ := met_some (r := fun h => evEs F .nil ρ h) hp1
  obtain ⟨k1, k2, k3, k4⟩ := mid_ok (G := G) (X := X) hu q2
  obtain ⟨t1, t2⟩ := tyV_is I1 rx (rk_ty hK hr1 vd1 q)
  exact ⟨rkN k, id, k1, k2, k3, t1, t2, Calls.callWith_builtin rfl (PySem.evalArgs_none (k4 pins s1 σ H1 x [] v [] Q I1 rx .nil ⟨m1, d1, [], h1, hr1, vd1, .nil, post_quiet (fun _ _ => quiet_met) hp2⟩))⟩
end
end Mp

set_option Elab.async false
set_option linter.all false
set_option maxRecDepth 100000
set_option maxHeartbeats 1000000
/-! C7: targets, what loops walk. -/
namespace Mp
open PySem PySem.Spec PyProof.Rows L2
section
variable {G : Gm} {W : WX} {F : Fns} {X : Cx} {m m' : List Addr} {H H' : Hp} {h h' : PH} {σ : L2.St} {ρ : Env}
theorem ER.set {i : Nat} {v : V} {d : D} (er : ER G m H σ ρ) (vd : VD G m H v d) : ER G m H (σ.set i (some v)) (ρ.set i (some d)) := by
  refine ⟨by simp [er.1], fun j e q => ?_⟩
  by_cases hj : i = j
  · subst hj
    have hl : i < ρ.length := by
      have := (List.getElem?_eq_some_iff.mp q).1
      simpa using this
    rw [List.getElem?_set_self hl] at q
    cases q
    exact ⟨v, List.getElem?_set_self (by rw [er.1]; exact hl), vd⟩
  · rw [List.getElem?_set_ne hj] at q
    obtain ⟨w, q1, q2⟩ := er.2 j e q
    exact ⟨w, by rw [List.getElem?_set_ne hj]; exact q1, q2⟩
/-- only the slots in ls differ -/
def OnlyS (σ σ' : L2.St) (ls : List Nat) : Prop := σ'.length = σ.length ∧ ∀ j, j ∉ ls → σ'[j]? = σ[j]?
theorem OnlyS.refl {ls : List Nat} : OnlyS σ σ ls := ⟨rfl, fun _ _ => rfl⟩
theorem OnlyS.trans {σ' σ2 : L2.St} {ls ls' : List Nat} (a : OnlyS σ σ' ls) (b : OnlyS σ' σ2 ls') : OnlyS σ σ2 (ls ++ ls') :=
  ⟨b.1.trans a.1, fun j hj => (b.2 j fun z => hj (List.mem_append_right _ z)).trans (a.2 j fun z => hj (List.mem_append_left _ z))⟩
mutual
def tgS : Tg → List Nat
  | .stk => []
  | .name i => [i]
  | .tup ts => tgsS ts
  | .sub _ _ => []
def tgsS : Tgs → List Nat
  | .nil => []
  | .cons t ts => tgS t ++ tgsS ts
end
/-- behind a target -/
def postG (G : Gm) (σ : L2.St) (ls : List Nat) (m : List Addr) (H : Hp) (Q : L2.St → Hp → Prop) : Res Env → Prop
  | .ok ρ h' => ∀ m' σ' H', Ext G.K m H m' H' → HR G m' h' H' → ER G m' H' σ' ρ → OnlyS σ σ' ls → Q σ' H'
  | _ => False
theorem postG_ext {Q : L2.St → Hp → Prop} {r : Res Env} {ls : List Nat} (e : Ext G.K m H m' H') (p : postG G σ ls m H Q r) : postG G σ ls m' H' Q r := by
  cases r with
  | ok ρ h' => exact fun m2 σ2 H2 e2 => p m2 σ2 H2 (e.trans e2)
  | exc c h' => exact p
  | stk => exact p
def tG (G : Gm) (F : Fns) (t : Tg) : TG := fun v σ H Q => ∃ m ρ h d, HR G m h H ∧ ER G m H σ ρ ∧ VD G m H v d ∧ postG G σ (tgS t) m H Q (evT F t d ρ h)
def tGs (G : Gm) (F : Fns) (t : Tgs) : TGs := fun vs σ H Q => ∃ m ρ h ds, HR G m h H ∧ ER G m H σ ρ ∧ VDs G m H vs ds ∧ postG G σ (tgsS t) m H Q (evTs F t ds ρ h)
theorem _root_.L2.PG.weaken {X : Cx} {e : Expr} {t t' : TG} (p : PG X e t) (h : ∀ v σ H Q, t' v σ H Q → t v σ H Q) : PG X e t' := ⟨fun pins s σ H v u Q I r q => p.run pins s σ H v u Q I r (h v σ H Q q)⟩
theorem _root_.L2.PGs.weaken {X : Cx} {e : List Expr} {t t' : TGs} (p : PGs X e t) (h : ∀ v σ H Q, t' v σ H Q → t v σ H Q) : PGs X e t' := ⟨fun pins s σ H v u Q I r q => p.run pins s σ H v u Q I r (h v σ H Q q)⟩
theorem _root_.L2.PG.or {X : Cx} {e : Expr} {t t' : TG} (p : PG X e t) (p' : PG X e t') : PG X e (fun v σ H Q => t v σ H Q ∨ t' v σ H Q) := ⟨fun pins s σ H v u Q I r q => q.elim (fun q => p.run pins s σ H v u Q I r q) fun q => p'.run pins s σ H v u Q I r q⟩
variable {pos : Pos} {tg : Expr} {tgs : List Expr} {tg' : Tg} {tgs' : Tgs}
theorem rg_stk : PG X tg (tG G F .stk) := ⟨fun pins s σ H v u Q I r ⟨m, ρ, h, d, hr, er, vd, hp⟩ => hp.elim⟩
theorem rg_name {i : Nat} {x : Str} (hN : X.N.Nodup) (hi : X.N[i]? = some x) (hx : Loc X.env.scope x) (hf : X.fn x = true ∨ X.env.scope.names.lookup x = some .local) : PG X (.Name x pos) (tG G F (.name i)) :=
  (pg_name (i := i) hN hi hx hf).weaken fun v σ H Q ⟨m, ρ, h, d, hr, er, vd, hp⟩ => hp m _ H .refl hr (er.set vd) ⟨by simp, fun j hj => List.getElem?_set_ne (fun z => hj (by simp [tgS, z]))⟩
theorem rgs_nil : PGs X [] (tGs G F .nil) := (pgs_nil (X := X)).weaken fun vs σ H Q ⟨m, ρ, h, ds, hr, er, vd, hp⟩ => by
  cases ds with
  | nil => cases vd; exact ⟨rfl, hp m σ H .refl hr er .refl⟩
  | cons d ds => exact hp.elim
theorem rgs_cons (h1 : PG X tg (tG G F tg')) (h2 : PGs X tgs (tGs G F tgs')) (hs : (assignEach (tg :: tgs) X.env).map (·.2) = assign tg X.env :: (assignEach tgs X.env).map (·.2)) : PGs X (tg :: tgs) (tGs G F (.cons tg' tgs')) :=
  (pgs_cons h1 h2 hs).weaken fun vs σ H Q ⟨m, ρ, h, ds, hr, er, vd, hp⟩ => by
  cases ds with
  | nil => exact hp.elim
  | cons d ds =>
    cases vd with
    | cons a b =>
      refine ⟨_, _, rfl, m, ρ, h, d, hr, er, a, ?_⟩
      have hp' : postG G σ (tgS tg' ++ tgsS tgs') m H Q ((evT F tg' d ρ h).bind fun ρ h => evTs F tgs' ds ρ h) := hp
      cases q : evT F tg' d ρ h with
      | stk => rw [q] at hp'; exact hp'
      | exc c h' => rw [q] at hp'; exact hp'
      | ok ρ' h' =>
        rw [q] at hp'
        intro m' σ' H' e' hr' er' os
        refine ⟨m', ρ', h', ds, hr', er', b.mono e', ?_⟩
        have hp2 : postG G σ (tgS tg' ++ tgsS tgs') m H Q (evTs F tgs' ds ρ' h') := hp'
        cases q2 : evTs F tgs' ds ρ' h' with
        | stk => rw [q2] at hp2; exact hp2
        | exc c h' => rw [q2] at hp2; exact hp2
        | ok ρ2 h2 =>
          rw [q2] at hp2
          exact fun m2 σ2 H2 e2 hr2 er2 os2 => hp2 m2 σ2 H2 (e'.trans e2) hr2 er2 (os.trans os2)
theorem rg_tup {k : Nat} (hc : X.calm = true) (hK : X.K = G.K) (ha : PGs X tgs (tGs G F tgs')) (hn : ∀ ds ρ h, ds.length ≠ tgs.length → ∀ ρ' h', evTs F tgs' ds ρ h ≠ .ok ρ' h') (hl : (assignEach tgs X.env).length = tgs.length) (hst : (assignEach tgs X.env).findIdx? (·.1) = none) :
    PG X (.Tuple tgs k pos) (tG G F (.tup tgs')) := by
  refine ((pg_tup (n := tgs.length) hc ha hl hst).or (pg_unl (n := tgs.length) hc ha hl hst)).weaken fun v σ H Q ⟨m, ρ, h, d, hr, er, vd, hp⟩ => ?_
  have hp' : postG G σ (tgsS tgs') m H Q (match seqOf h d with
    | some ds => evTs F tgs' ds ρ h
    | none => .stk) := hp
  split at hp'
  · rename_i ds hds
    obtain ⟨a, vs, rfl, hsq, hv⟩ := seq_of hr vd hds
    have hlen : vs.length = tgs.length := by
      rw [hv.len]
      cases q : evTs F tgs' ds ρ h with
      | stk => rw [q] at hp'; exact hp'.elim
      | exc c h' => rw [q] at hp'; exact hp'.elim
      | ok ρ' h' => exact Classical.byContradiction fun z => hn ds ρ h z ρ' h' q
    rcases hsq with q | q
    · exact .inr ⟨a, vs, rfl, hK ▸ q, hlen, m, ρ, h, ds, hr, er, hv, hp'⟩
    · exact .inl ⟨a, vs, rfl, hK ▸ q, hlen, m, ρ, h, ds, hr, er, hv, hp'⟩
  · exact hp'.elim
/-- o[i] = v by values -/
def rSetq (G : Gm) : TSet := fun o i v H Q => ∃ m a b d h, HR G m h H ∧ VD G m H o a ∧ VD G m H i b ∧ VD G m H v d ∧ postR G (fun _ _ _ _ => False) [] m H (fun _ H' => Q H') (setop a b d h)
theorem kvd_any {j : Key} : ∀ {ks : List (Key × V)} {kvs : List (D × D)}, KVD G m H ks kvs → (ks.any fun kv => decide (kv.1 = j)) = kvs.any fun kv => decide (kv.1 = keyD j)
  | _, _, .nil => rfl
  | _, _, .cons (k := k) x r => by
    rw [List.any_cons, List.any_cons, kvd_any r]
    have e : decide (k = j) = decide (keyD k = keyD j) := by
      by_cases z : k = j
      · subst z; simp
      · rw [decide_eq_false z, decide_eq_false fun q => z (keyD_inj q)]
    rw [e]
theorem kvd_map {j : Key} {w : V} {e : D} (hw : VD G m H w e) : ∀ {ks : List (Key × V)} {kvs : List (D × D)}, KVD G m H ks kvs → KVD G m H (ks.map fun kv => if kv.1 = j then (kv.1, w) else kv) (kvs.map fun kv => if kv.1 = keyD j then (kv.1, e) else kv)
  | _, _, .nil => .nil
  | _, _, .cons (k := k) x r => by
    rw [List.map_cons, List.map_cons]
    by_cases z : k = j
    · subst z
      rw [if_pos rfl, if_pos rfl]
      exact .cons hw (kvd_map hw r)
    · rw [if_neg z, if_neg fun q => z (keyD_inj q)]
      exact .cons x (kvd_map hw r)
theorem kvd_snoc {j : Key} {w : V} {e : D} (hw : VD G m H w e) : ∀ {ks : List (Key × V)} {kvs : List (D × D)}, KVD G m H ks kvs → KVD G m H (ks ++ [(j, w)]) (kvs ++ [(keyD j, e)])
  | _, _, .nil => .cons hw .nil
  | _, _, .cons x r => .cons x (kvd_snoc hw r)
theorem kvd_put {j : Key} {w : V} {e : D} (hw : VD G m H w e) {ks : List (Key × V)} {kvs : List (D × D)} (hk : KVD G m H ks kvs) : KVD G m H (putK ks j w) (put (keyD j) e kvs) := by
  unfold putK put
  rw [kvd_any hk]
  split
  · exact kvd_map hw hk
  · exact kvd_snoc hw hk
theorem set_all (hu : X.A.units + 65 < cLine) : PSet X (rSetq G) := by
  intro pins s σ H o i v ov iv u Q I ro ri rv hq
  obtain ⟨m, a, b, d, h, hr, va, vb, vd, hp⟩ := hq
  unfold setop at hp
  split at hp
  · rename_i l
    cases va with
    | @ref p l hl =>
      split at hp
      · rename_i ds eo
        split at hp
        · rename_i i'
          cases vb
          split at hp
          · rename_i j hj
            obtain ⟨vs, h1, h2⟩ := hr.of hl eo
            refine set_list pins s σ H _ _ v ov iv u Q I ro ri rv ⟨p, vs, _, j, rfl, rfl, h1, by rw [← place_ix, h2.len]; exact hj, ?_⟩
            have e : Ext G.K m H m (upd H p (.lst (vs.set j v))) := ext_upd (wr_lst h1) (List.mem_of_getElem? hl)
            exact hp m _ e (hr.put hl eo (wr_lst h1) ⟨_, upd_same, VDs.set (vd.mono e) j (h2.mono e)⟩)
          · exact hp.elim
        · exact hp.elim
      · rename_i kvs eo
        split at hp
        · rename_i k hk
          split at hp
          · rename_i hlt
            obtain ⟨ks, h1, h2⟩ := hr.of hl eo
            obtain ⟨j, rfl, rfl⟩ := key_of vb hk
            have hlen : ks.length = kvs.length := by
              clear hp h1 eo hlt
              induction h2 with
              | nil => rfl
              | cons _ _ ih => simp [ih]
            cases ro
            have e : Ext G.K m H m (upd H p (.dK (putK ks j v))) := ext_upd (wr_dK h1) (List.mem_of_getElem? hl)
            exact d_setItem (A := X.A) (by omega) I (DPut.k (k := j) h1 (by rw [hlen, ← mx_eq]; exact hlt)) ri rv fun s' I' =>
              ⟨_, I', hp m _ e (hr.put hl eo (wr_dK h1) ⟨_, upd_same, kvd_put (vd.mono e) (h2.mono e)⟩)⟩
          · exact hp.elim
        · exact hp.elim
      · exact hp.elim
  · exact hp.elim
theorem rg_sub {o i : Expr} {o' i' : Ex} (hu : X.A.units + 65 < cLine) (ho : PE X o (tE G W F o')) (hi : PE X i (tE G W F i')) (ha : ∀ v, assign (.Subscript o i pos) X.env v = (do
      let ov ← holding [v] (eval o X.env)
      let iv ← holding [v, ov] (eval i X.env)
      standAt pos
      holding [v, ov, iv] (setItem ov iv v)
      release [v, ov, iv] [])) : PG X (.Subscript o i pos) (tG G F (.sub o' i')) := by
  refine (pg_sub ho hi (set_all (G := G) hu) ha).weaken fun v σ H Q ⟨m, ρ, h, d, hr, er, vd, hp⟩ => ?_
  have hp' : postG G σ [] m H Q ((evE F o' ρ h).nx.bind fun x h => (evE F i' ρ h).nx.bind fun y h => (setop x y d h).bind fun _ h => .ok ρ h) := hp
  refine ⟨m, ρ, h, hr, er, ?_⟩
  cases q : evE F o' ρ h with
  | stk => rw [q] at hp'; exact hp'
  | exc c h' => rw [q] at hp'; exact hp'.elim
  | ok x h1 =>
    rw [q] at hp'
    intro m1 v1 H1 e1 hr1 vd1
    refine ⟨m1, ρ, h1, hr1, er.mono e1, ?_⟩
    have hp1 : postG G σ [] m H Q ((evE F i' ρ h1).nx.bind fun y h => (setop x y d h).bind fun _ h => .ok ρ h) := hp'
    cases q2 : evE F i' ρ h1 with
    | stk => rw [q2] at hp1; exact hp1
    | exc c h' => rw [q2] at hp1; exact hp1.elim
    | ok y h2 =>
      rw [q2] at hp1
      have hp2 : postG G σ [] m H Q ((setop x y d h2).bind fun _ h => .ok ρ h) := hp1
      intro m2 v2 H2 e2 hr2 vd2
      refine ⟨m2, x, y, d, h2, hr2, vd1.mono e2, vd2, vd.mono (e1.trans e2), ?_⟩
      cases q3 : setop x y d h2 with
      | stk => rw [q3] at hp2; exact hp2
      | exc c h' => rw [q3] at hp2; exact hp2.elim
      | ok z h3 =>
        rw [q3] at hp2
        intro m3 H3 e3 hr3
        have e := e1.trans (e2.trans e3)
        exact hp2 m3 σ H3 e hr3 (er.mono e) .refl

/-! ### what is walked -/
/-- J yields the items of w, as long as the places that it keeps stand -/
def Serves (G : Gm) (J : It) (w : Walk) (m1 : List Addr) (H1 : Hp) (h1 : PH) : Prop :=
  ∀ i m H h, Ext G.K m1 H1 m H → HR G m h H → kept h1 h w.keep = true →
    (∀ d, w.items[i]? = some d → J.go i H ∧ ∀ x H', J.yld i H x H' → Ext G.K m H m H' ∧ HR G m h H' ∧ VD G m H' x d) ∧ (w.items.length = i → J.stop i H)
def postI (G : Gm) (W : WX) (σ : L2.St) (m : List Addr) (H : Hp) (R : It → Hp → Prop) : Res Walk → Prop
  | .ok w h' => ∀ m' H' J, Ext G.K m H m' H' → HR G m' h' H' → Serves G J w m' H' h' → R J H'
  | .exc c h' => ∀ m' H', Ext G.K m H m' H' → HR G m' h' H' → W (G.xa c) none σ H'
  | .stk => False
def tI (G : Gm) (W : WX) (F : Fns) (i : Mp.Iw) : TI := fun σ H R => ∃ m ρ h, HR G m h H ∧ ER G m H σ ρ ∧ postI G W σ m H R (evI F i ρ h)
theorem _root_.L2.PI.weaken {X : Cx} {tg e : Expr} {t t' : TI} (p : PI X tg e t) (h : ∀ σ H Q, t' σ H Q → t σ H Q) : PI X tg e t' := ⟨fun pins s σ H R I q => p.run pins s σ H R I (h σ H R q)⟩
theorem postI_ext {R : It → Hp → Prop} {r : Res Walk} (e : Ext G.K m H m' H') (p : postI G W σ m H R r) : postI G W σ m' H' R r := by
  cases r with
  | ok ρ h' => exact fun m2 H2 J e2 => p m2 H2 J (e.trans e2)
  | exc c h' => exact fun m2 H2 e2 => p m2 H2 (e.trans e2)
  | stk => exact p
theorem postI_bind {R : It → Hp → Prop} {r : Res D} {f : D → PH → Res Walk} (p : postI G W σ m H R (r.bind f)) :
    post G W σ m H (fun v H1 => ∃ m1 d h1, Ext G.K m H m1 H1 ∧ HR G m1 h1 H1 ∧ VD G m1 H1 v d ∧ postI G W σ m1 H1 R (f d h1)) r := by
  cases r with
  | ok d h' => exact fun m1 v H1 e hr vd => ⟨m1, d, h', e, hr, vd, postI_ext e p⟩
  | exc c h' => exact p
  | stk => exact p
theorem kept_at {h1 h : PH} {ls : List Nat} {l : Nat} (k : kept h1 h ls = true) (hl : l ∈ ls) : h1[l]? = h[l]? := by
  unfold kept at k
  exact of_decide_eq_true (List.all_eq_true.mp k l hl)
/-- the list at a stands, as long as the places in ls stand -/
def Stays (G : Gm) (ls : List Nat) (a : Addr) (ds : List D) (m1 : List Addr) (H1 : Hp) (h1 : PH) : Prop :=
  ∀ m H h, Ext G.K m1 H1 m H → HR G m h H → kept h1 h ls = true → ∃ vs, SqL G.K H a vs ∧ VDs G m H vs ds
theorem stays_of {h1 : PH} {v : V} {d : D} {ds : List D} {m1 : List Addr} {H1 : Hp} (hr1 : HR G m1 h1 H1) (vd : VD G m1 H1 v d) (e : lstOf h1 d = some ds) : ∃ a vs, v = .ref a ∧ SqL G.K H1 a vs ∧ Stays G (locs d) a ds m1 H1 h1 := by
  obtain ⟨a, vs, rfl, q1, q2⟩ := lst_of hr1 vd e
  refine ⟨a, vs, rfl, q1, fun m H h ex hr k => ?_⟩
  cases vd with
  | scr x y => cases e; exact ⟨_, (ex.frz _ _ x).sq, y.mono ex⟩
  | @ref a l hl =>
    have e2 : lstOf h (.ref l) = some ds := by
      have q : lstOf h1 (.ref l) = some ds := e
      simp only [lstOf] at q ⊢
      rw [← kept_at k (l := l) (by simp [locs])]
      exact q
    obtain ⟨a', vs', q1, q4, q5⟩ := lst_of hr (VD.ref (ex.get hl)) e2
    cases q1
    exact ⟨vs', q4, q5⟩
  | _ => cases e
theorem kept_app {h1 h : PH} {ls ls' : List Nat} (k : kept h1 h (ls ++ ls') = true) : kept h1 h ls = true ∧ kept h1 h ls' = true := by
  unfold kept at k ⊢
  rw [List.all_append, Bool.and_eq_true] at k
  exact k
theorem serves_lst {h1 : PH} {a : Addr} {ds : List D} {m1 : List Addr} {H1 : Hp} {ls : List Nat} (st : Stays G ls a ds m1 H1 h1) : Serves G (Itl G.K a) ⟨ds, ls⟩ m1 H1 h1 := by
  intro i m H h ex hr k
  obtain ⟨vs, q1, q2⟩ := st m H h ex hr k
  refine ⟨fun d hd => ?_, fun hi => ?_⟩
  · obtain ⟨v, hv, vd⟩ := q2.get hd
    refine ⟨⟨vs, v, q1, hv⟩, fun x H' ⟨e1, y⟩ => ?_⟩
    subst e1
    have := y vs q1
    rw [hv] at this
    cases this
    exact ⟨.refl, hr, vd⟩
  · exact ⟨vs, q1, by rw [q2.len]; exact Nat.le_of_eq hi⟩
theorem serves_tup {h1 : PH} {a : Addr} {vs : List V} {ds : List D} {m1 : List Addr} {H1 : Hp} (ht : SqT G.K H1 a vs) (hv : VDs G m1 H1 vs ds) : Serves G (Itt G.K a) ⟨ds, []⟩ m1 H1 h1 := by
  intro i m H h ex hr k
  have q1 := ex.tups _ _ ht
  have q2 := hv.mono ex
  refine ⟨fun d hd => ?_, fun hi => ?_⟩
  · obtain ⟨v, hv, vd⟩ := q2.get hd
    refine ⟨⟨vs, v, q1, hv⟩, fun x H' ⟨e1, y⟩ => ?_⟩
    subst e1
    have := y vs q1
    rw [hv] at this
    cases this
    exact ⟨.refl, hr, vd⟩
  · exact ⟨vs, q1, by rw [q2.len]; exact Nat.le_of_eq hi⟩
theorem serves_rng {h1 : PH} {lo : Int} {n : Nat} {m1 : List Addr} {H1 : Hp} : Serves G (Itr lo n) ⟨rngD lo n, []⟩ m1 H1 h1 := by
  intro i m H h ex hr k
  refine ⟨fun d hd => ?_, fun hi => ?_⟩
  · have hlt : i < n := by
      have := (List.getElem?_eq_some_iff.mp hd).1
      simpa [rngD] using this
    refine ⟨hlt, fun x H' ⟨e1, e2⟩ => ?_⟩
    subst e1 e2
    have hd' : (rngD lo n)[i]? = some d := hd
    have : d = .int (lo + (i : Int)) := by
      unfold rngD at hd'
      rw [List.getElem?_map, List.getElem?_range hlt] at hd'
      exact (Option.some.inj hd').symm
    subst this
    exact ⟨.refl, hr, .int _⟩
  · have : n = i := by simpa [rngD] using hi
    exact Nat.le_of_eq this
theorem enumD_get : ∀ (ds : List D) (k i : Nat), (enumD k ds)[i]? = (ds[i]?).map fun d => .tup [.int ((k + i : Nat) : Int), d]
  | [], k, i => by simp [enumD]
  | d :: ds, k, 0 => by simp [enumD]
  | d :: ds, k, i + 1 => by
    have := enumD_get ds (k + 1) i
    simp only [enumD, List.getElem?_cons_succ, this]
    have e : k + 1 + i = k + (i + 1) := by omega
    rw [e]
theorem enumD_len : ∀ (ds : List D) (k : Nat), (enumD k ds).length = ds.length
  | [], _ => rfl
  | d :: ds, k => by simp [enumD, enumD_len ds]
theorem zipD_get : ∀ (as bs : List D) (i : Nat) (d : D), (zipD as bs)[i]? = some d → ∃ a b, as[i]? = some a ∧ bs[i]? = some b ∧ d = .tup [a, b]
  | [], bs, i, d, h => by simp [zipD] at h
  | a :: as, [], i, d, h => by simp [zipD] at h
  | a :: as, b :: bs, 0, d, h => by simp [zipD] at h; exact ⟨a, b, rfl, rfl, h.symm⟩
  | a :: as, b :: bs, i + 1, d, h => by
    simp only [zipD, List.getElem?_cons_succ] at h
    obtain ⟨x, y, q1, q2, q3⟩ := zipD_get as bs i d h
    exact ⟨x, y, by simpa using q1, by simpa using q2, q3⟩
theorem zipD_len : ∀ (as bs : List D), (zipD as bs).length = min as.length bs.length
  | [], bs => by simp [zipD]
  | a :: as, [] => by simp [zipD]
  | a :: as, b :: bs => by simp [zipD, zipD_len as bs]
theorem serves_enum {h1 : PH} {a : Addr} {ds : List D} {m1 : List Addr} {H1 : Hp} {ls : List Nat} (st : Stays G ls a ds m1 H1 h1) : Serves G (Ite G.K a) ⟨enumD 0 ds, ls⟩ m1 H1 h1 := by
  intro i m H h ex hr k
  obtain ⟨vs, q1, q2⟩ := st m H h ex hr k
  refine ⟨fun d hd => ?_, fun hi => ?_⟩
  · have hd' : (enumD 0 ds)[i]? = some d := hd
    rw [enumD_get] at hd'
    cases hds : ds[i]? with
    | none => rw [hds] at hd'; cases hd'
    | some z =>
      rw [hds] at hd'
      simp only [Option.map_some, Option.some.injEq, Nat.zero_add] at hd'
      subst hd'
      obtain ⟨v, hv, vd⟩ := q2.get hds
      refine ⟨⟨vs, v, q1, hv⟩, fun x H' ⟨T, y, e1, e2, e3, e4⟩ => ?_⟩
      subst e1 e3
      have := e4 vs q1
      rw [hv] at this
      cases this
      have ee : Ext G.K m H m (upd H T (.tup [.int (i : Nat), v])) := ext_tup e2
      exact ⟨ee, hr.tup e2, .tup (.inl (.inl upd_same)) (.cons (.int _) (.cons (vd.mono ee) .nil))⟩
  · have hi' : (enumD 0 ds).length = i := hi
    rw [enumD_len] at hi'
    exact ⟨vs, q1, by rw [q2.len]; exact Nat.le_of_eq hi'⟩
theorem serves_zip {h1 : PH} {a b : Addr} {ds es : List D} {m1 : List Addr} {H1 : Hp} {ls ls' : List Nat} (st : Stays G ls a ds m1 H1 h1) (st2 : Stays G ls' b es m1 H1 h1) :
    Serves G (Itz G.K a b) ⟨zipD ds es, ls ++ ls'⟩ m1 H1 h1 := by
  intro i m H h ex hr k
  obtain ⟨k1, k2⟩ := kept_app k
  obtain ⟨vs, q1, q2⟩ := st m H h ex hr k1
  obtain ⟨ws, q3, q4⟩ := st2 m H h ex hr k2
  refine ⟨fun d hd => ?_, fun hi => ?_⟩
  · obtain ⟨x, y, z1, z2, rfl⟩ := zipD_get ds es i d hd
    obtain ⟨v, hv, vd⟩ := q2.get z1
    obtain ⟨u, hu, ud⟩ := q4.get z2
    refine ⟨⟨vs, ws, v, u, q1, q3, hv, hu⟩, fun x H' ⟨T, y, z, e1, e2, e3, e4, e5⟩ => ?_⟩
    subst e1 e3
    have := e4 vs q1
    rw [hv] at this
    cases this
    have := e5 ws q3
    rw [hu] at this
    cases this
    have ee : Ext G.K m H m (upd H T (.tup [v, u])) := ext_tup e2
    exact ⟨ee, hr.tup e2, .tup (.inl (.inl upd_same)) (.cons (vd.mono ee) (.cons (ud.mono ee) .nil))⟩
  · have hi' : (zipD ds es).length = i := hi
    rw [zipD_len] at hi'
    refine ⟨vs, ws, q1, q3, ?_⟩
    rw [q2.len, q4.len]
    omega
end
end Mp

set_option Elab.async false
set_option linter.all false
set_option maxRecDepth 100000
set_option maxHeartbeats 1000000
/-! C8: loops, comprehensions, statements. -/
namespace Mp
open PySem PySem.Spec PyProof.Rows L2
section
variable {G : Gm} {W : WX} {F : Fns} {X : Cx} {m m' : List Addr} {H H' : Hp} {h h' : PH} {σ : L2.St} {ρ : Env} {tg l e f : Expr} {l' e' f' : Ex} {tl : TE} {pos tpos p : Pos} {elts : List Expr} {kk : Nat}
theorem pi_seq (hl : PE X l tl) : PI X tg l (fun σ H R => tl σ H fun x H1 => (∃ a, x = .ref a ∧ (∃ xs, SqL X.K H1 a xs) ∧ R (Itl X.K a) H1) ∨ (∃ a, x = .ref a ∧ (∃ xs, SqT X.K H1 a xs) ∧ R (Itt X.K a) H1)) := by
  refine ⟨fun pins s σ H R I h => ?_⟩
  refine thn (hl.run pins s σ H _ I h) fun v s1 ⟨x, H1, I1, r1, q1⟩ => ?_
  rcases q1 with ⟨a, e, ⟨xs, hq⟩, q⟩ | ⟨a, e, ⟨xs, hq⟩, q⟩
  · subst e
    cases r1
    obtain ⟨its, rv, p, hz⟩ := I1.list hq
    refine wpAny_pyIter_list p.isList ?_
    refine ⟨s1.heap.objs.size, [s1.heap.objs.size], _, _, H1, rfl, I1.kept (t' := s1.toks) fun b o e => Heap.get?_push_of_some _ e, turn_list a _, ⟨_, Heap.get?_push_size _ rfl, rfl, rfl⟩, fun b hb => ?_, q⟩
    have e : b = s1.heap.objs.size := by simpa using hb
    subst e
    exact I1.fpOk (Nat.le_refl _) (I1.hok.fresh (Nat.le_refl _))
  · subst e
    cases r1
    obtain ⟨its, rv, p, hz⟩ := I1.tuple hq
    refine wpAny_pyIter_tuple (show s1.heap.IsTuple a its.toArray from p) ?_
    refine ⟨s1.heap.objs.size, [s1.heap.objs.size], _, _, H1, rfl, I1.kept (t' := s1.toks) fun b o e => Heap.get?_push_of_some _ e, turn_tuple a _, ⟨_, Heap.get?_push_size _ rfl, rfl, rfl⟩, fun b hb => ?_, q⟩
    have e : b = s1.heap.objs.size := by simpa using hb
    subst e
    exact I1.fpOk (Nat.le_refl _) (I1.hok.fresh (Nat.le_refl _))
theorem ri_stk : PI X tg l (tI G W F .stk) := ⟨fun pins s σ H R I ⟨m, ρ, h, hr, er, hp⟩ => hp.elim⟩
theorem ri_seq (hK : X.K = G.K) (hl : PE X l (tE G W F l')) : PI X tg l (tI G W F (.seq l')) := by
  refine (pi_seq hl).weaken fun σ H R ⟨m, ρ, h, hr, er, hp⟩ => ?_
  refine ⟨m, ρ, h, hr, er, post_imp (postI_bind hp) fun v H1 ⟨m1, d1, h1, e1, hr1, vd1, hp1⟩ => ?_⟩
  have hp2 : postI G W σ m1 H1 R (match seqOf h1 d1 with
    | some ds => .ok ⟨ds, locs d1⟩ h1
    | none => .stk) := hp1
  cases d1 with
  | tup ds =>
    cases vd1 with
    | tup ta xa => exact .inr ⟨_, rfl, ⟨_, hK ▸ ta⟩, hp2 m1 H1 _ .refl hr1 (hK ▸ serves_tup ta xa)⟩
  | ref l =>
    cases q : seqOf h1 (.ref l) with
    | none => rw [q] at hp2; exact hp2.elim
    | some ds =>
      rw [q] at hp2
      obtain ⟨a, vs, rfl, hsq, st⟩ := stays_of hr1 vd1 (show lstOf h1 (.ref l) = some ds from q)
      exact .inl ⟨_, rfl, ⟨_, hK ▸ hsq⟩, hp2 m1 H1 _ .refl hr1 (hK ▸ serves_lst st)⟩
  | scr ds =>
    obtain ⟨a, vs, rfl, hsq, st⟩ := stays_of hr1 vd1 (show lstOf h1 (.scr ds) = some ds from rfl)
    exact .inl ⟨_, rfl, ⟨_, hK ▸ hsq⟩, hp2 m1 H1 _ .refl hr1 (hK ▸ serves_lst st)⟩
  | _ => exact hp2.elim
theorem ri_rng1 (hg : Gl X "range") (hm : X.mg "range" = none) (he : PE X e (tE G W F e')) (hs : starEach [e] X.env = [(false, eval e X.env)]) : PI X tg (.Call (.Name "range" p) [e] [] pos) (tI G W F (.rng1 e')) := by
  refine (pi_range1 hg hm (pa_cons he pa_nil (by rw [hs]; rfl)) hs).weaken fun σ H R ⟨m, ρ, h, hr, er, hp⟩ => ?_
  refine ⟨m, ρ, h, hr, er, post_imp (postI_bind hp) fun v H1 ⟨m1, d1, h1, e1, hr1, vd1, hp1⟩ => ?_⟩
  cases d1 with
  | int j =>
    cases vd1
    have hp2 : postI G W σ m1 H1 R (rngW 0 j h1) := hp1
    unfold rngW at hp2
    split at hp2
    · rename_i c
      refine ⟨j, rfl, c.2.2.1, c.2.2.2, ?_⟩
      have e0 : (j - 0).toNat = j.toNat := by rw [Int.sub_zero]
      rw [e0] at hp2
      exact hp2 m1 H1 _ .refl hr1 serves_rng
    · exact hp2.elim
  | _ => exact hp1.elim
theorem ri_rng2 (hg : Gl X "range") (hm : X.mg "range" = none) (he : PE X e (tE G W F e')) (hf : PE X f (tE G W F f')) (hs : starEach [e, f] X.env = [(false, eval e X.env), (false, eval f X.env)]) (hs2 : starEach [f] X.env = [(false, eval f X.env)]) :
    PI X tg (.Call (.Name "range" p) [e, f] [] pos) (tI G W F (.rng2 e' f')) := by
  refine (pi_range2 hg hm (pa_cons he (pa_cons hf pa_nil (by rw [hs2]; rfl)) (by rw [hs, hs2])) (by rw [hs]) hs2).weaken fun σ H R ⟨m, ρ, h, hr, er, hp⟩ => ?_
  refine ⟨m, ρ, h, hr, er, post_imp (postI_bind hp) fun v H1 ⟨m1, d1, h1, e1, hr1, vd1, hp1⟩ => ?_⟩
  refine ⟨m1, ρ, h1, hr1, er.mono e1, post_imp (postI_bind hp1) fun u H2 ⟨m2, d2, h2, e2, hr2, vd2, hp2⟩ => ?_⟩
  cases d1 with
  | int i =>
    cases d2 with
    | int j =>
      cases vd1
      cases vd2
      have hp3 : postI G W σ m2 H2 R (rngW i j h2) := hp2
      unfold rngW at hp3
      split at hp3
      · rename_i c
        exact ⟨i, j, rfl, c, hp3 m2 H2 _ .refl hr2 serves_rng⟩
      · exact hp3.elim
    | _ => exact hp2.elim
  | _ => exact hp2.elim
theorem ri_enum (hK : X.K = G.K) (hg : Gl X "enumerate") (hm : X.mg "enumerate" = none) (he : PE X e (tE G W F e')) (hs : starEach [e] X.env = [(false, eval e X.env)]) : PI X (.Tuple elts kk tpos) (.Call (.Name "enumerate" p) [e] [] pos) (tI G W F (.enum e')) := by
  refine (pi_enum hg hm (pa_cons he pa_nil (by rw [hs]; rfl)) hs).weaken fun σ H R ⟨m, ρ, h, hr, er, hp⟩ => ?_
  refine ⟨m, ρ, h, hr, er, post_imp (postI_bind hp) fun v H1 ⟨m1, d1, h1, e1, hr1, vd1, hp1⟩ => ?_⟩
  cases q : lstOf h1 d1 with
  | none => rw [q] at hp1; exact hp1.elim
  | some ds =>
    rw [q] at hp1
    obtain ⟨a, vs, rfl, hsq, st⟩ := stays_of hr1 vd1 q
    exact ⟨a, vs, rfl, hK ▸ hsq, hp1 m1 H1 _ .refl hr1 (hK ▸ serves_enum st)⟩
theorem ri_zip (hK : X.K = G.K) (hg : Gl X "zip") (hm : X.mg "zip" = none) (he : PE X e (tE G W F e')) (hf : PE X f (tE G W F f')) (hs : starEach [e, f] X.env = [(false, eval e X.env), (false, eval f X.env)]) (hs2 : starEach [f] X.env = [(false, eval f X.env)]) :
    PI X (.Tuple elts kk tpos) (.Call (.Name "zip" p) [e, f] [] pos) (tI G W F (.zip e' f')) := by
  refine (pi_zip hg hm (pa_cons he (pa_cons hf pa_nil (by rw [hs2]; rfl)) (by rw [hs, hs2])) (by rw [hs, hs2]) (by rw [hs2]; rfl)).weaken fun σ H R ⟨m, ρ, h, hr, er, hp⟩ => ?_
  refine ⟨m, ρ, h, hr, er, post_imp (postI_bind hp) fun v H1 ⟨m1, d1, h1, e1, hr1, vd1, hp1⟩ => ?_⟩
  refine ⟨m1, ρ, h1, hr1, er.mono e1, post_imp (postI_bind hp1) fun u H2 ⟨m2, d2, h2, e2, hr2, vd2, hp2⟩ => ?_⟩
  cases q : lstOf h2 d1 with
  | none => rw [q] at hp2; exact hp2.elim
  | some ds =>
    cases q2 : lstOf h2 d2 with
    | none => rw [q, q2] at hp2; exact hp2.elim
    | some es =>
      rw [q, q2] at hp2
      obtain ⟨a, vs, rfl, hsq, st⟩ := stays_of hr2 (vd1.mono e2) q
      obtain ⟨b, ws, rfl, hsq3, st3⟩ := stays_of hr2 vd2 q2
      exact ⟨a, b, vs, ws, rfl, hK ▸ hsq, hK ▸ hsq3, hp2 m2 H2 _ .refl hr2 (hK ▸ serves_zip st st3)⟩

/-! ### list comprehensions -/
theorem ext_add {K : PySem.W.Frag} {p : Addr} (e : Ext K m H m' H') (hn : H p = none) : Ext K m H (m' ++ [p]) H' := by
  obtain ⟨r, hr⟩ := e.pre
  refine ⟨⟨r ++ [p], by rw [hr, List.append_assoc]⟩, e.tups, e.frz, e.fr, fun a h h' => ?_⟩
  rcases List.mem_append.mp h with q | q
  · exact e.new a q h'
  · rw [List.mem_singleton.mp q]; exact hn
/-- a list beside the tracked ones is changed -/
theorem ext_side {K : PySem.W.Frag} {p : Addr} {u : HO} (e : Ext K m H m' H') (hn : H p = none) (hw : Wr H' p) : Ext K m H m' (upd H' p u) := by
  refine ⟨e.pre, fun a xs q => tups_upd hw a xs (e.tups a xs q), fun a xs q => frz_upd hw a xs (e.frz a xs q), fun a h h' => ?_, e.new⟩
  rw [upd_ne (by rintro rfl; exact h' hn)]
  exact e.fr a h h'
/-- the relation where H changes beside, or m grows beside -/
theorem OR.mono2 {a : Addr} {o : O} (x : OR G m H a o) (hp : ∀ {l : Nat} {x : Addr}, m[l]? = some x → m'[l]? = some x) (ht : ∀ a xs, SqT G.K H a xs → SqT G.K H' a xs) (hf : ∀ a xs, SqF G.K H a xs → SqF G.K H' a xs)
    (h1 : H' a = H a) (h2 : ∀ dx, H dx = some (.own a) → H' dx = some (.own a)) : OR G m' H' a o := by
  cases o with
  | lst ds => obtain ⟨vs, a1, a2⟩ := x; exact ⟨vs, h1.trans a1, a2.mono2 hp ht hf⟩
  | dct kvs =>
    obtain ⟨ks, a1, a2⟩ := x
    refine ⟨ks, h1.trans a1, ?_⟩
    clear a1
    induction a2 with
    | nil => exact .nil
    | cons y _ ih => exact .cons (y.mono2 hp ht hf) ih
  | ins c fs =>
    obtain ⟨dx, vs, a1, a2, a3⟩ := x
    refine ⟨dx, vs, h1.trans a1, h2 dx a2, ?_⟩
    clear a1
    induction a3 with
    | nil => exact .nil
    | cons y _ ih => exact .cons (y.mono2 hp ht hf) ih
theorem HR.side {p : Addr} {u : HO} (r : HR G m h H) (hw : Wr H p) (hn : p ∉ m) : HR G m h (upd H p u) := by
  refine ⟨r.len, r.nd, fun l a o ea eo => ?_⟩
  have hne : a ≠ p := by rintro rfl; exact hn (List.mem_of_getElem? ea)
  refine (r.obj l a o ea eo).mono2 (fun h => h) (tups_upd hw) (frz_upd hw) (upd_ne hne) fun dx e => ?_
  rw [upd_ne ?_]
  · exact e
  · rintro rfl
    rcases hw with z | ⟨u, z, _, _, h3⟩
    · rw [z] at e; cases e
    · rw [z] at e; cases e; exact h3 _ rfl
theorem HR.add {p : Addr} {vs : List V} {ds : List D} (r : HR G m h H) (hp : H p = some (.lst vs)) (hn : p ∉ m) (hv : VDs G m H vs ds) : HR G (m ++ [p]) (h ++ [.lst ds]) H := by
  have get : ∀ {l : Nat} {x : Addr}, m[l]? = some x → (m ++ [p])[l]? = some x := fun {l x} q => by rw [List.getElem?_append_left (List.getElem?_eq_some_iff.mp q).1]; exact q
  refine ⟨by simp [r.len], nd_snoc r.nd hn, fun l a o' ea eo => ?_⟩
  rcases snoc_get r.len ea eo with ⟨a1, a2⟩ | ⟨a1, a2, a3⟩
  · exact (r.obj l a o' a1 a2).mono2 get (fun _ _ z => z) (fun _ _ z => z) rfl fun _ z => z
  · subst a2 a3
    exact ⟨vs, hp, hv.mono2 get (fun _ _ z => z) fun _ _ z => z⟩
theorem wipe_get {σ : L2.St} {j : Nat} : ∀ {vs : List Nat}, (L2.wipe σ vs)[j]? = if j ∈ vs then (σ[j]?).map fun _ => none else σ[j]?
  | [] => by simp [L2.wipe]
  | v :: vs => by
    unfold L2.wipe
    by_cases hj : v = j
    · subst hj
      rw [List.getElem?_set]
      have hl := L2.wipe_length σ vs
      by_cases hv : v < σ.length
      · simp [hl, hv]
      · simp [hl, hv]
    · rw [List.getElem?_set_ne hj, wipe_get]
      have : (j ∈ v :: vs) ↔ j ∈ vs := by simp [Ne.symm hj]
      simp only [this]
theorem wipeE_get {ρ : Env} {j : Nat} : ∀ {vs : List Nat}, (wipeE ρ vs)[j]? = if j ∈ vs then (ρ[j]?).map fun _ => none else ρ[j]?
  | [] => by simp [wipeE]
  | v :: vs => by
    unfold wipeE
    have hl : ∀ vs : List Nat, (wipeE ρ vs).length = ρ.length := fun vs => by
      induction vs with
      | nil => rfl
      | cons a r ih => simp [wipeE, ih]
    by_cases hj : v = j
    · subst hj
      rw [List.getElem?_set]
      by_cases hv : v < ρ.length
      · simp [hl, hv]
      · simp [hl, hv]
    · rw [List.getElem?_set_ne hj, wipeE_get]
      have : (j ∈ v :: vs) ↔ j ∈ vs := by simp [Ne.symm hj]
      simp only [this]
theorem ER.wipe (er : ER G m H σ ρ) (vs : List Nat) : ER G m H (L2.wipe σ vs) (wipeE ρ vs) := by
  refine ⟨?_, fun i d q => ?_⟩
  · have hl : ∀ vs : List Nat, (wipeE ρ vs).length = ρ.length := fun vs => by
      induction vs with
      | nil => rfl
      | cons a r ih => simp [wipeE, ih]
    rw [L2.wipe_length, hl, er.1]
  · rw [wipeE_get] at q
    by_cases hi : i ∈ vs
    · rw [if_pos hi] at q
      cases z : ρ[i]? <;> rw [z] at q <;> cases q
    · rw [if_neg hi] at q
      obtain ⟨v, q1, q2⟩ := er.2 i d q
      exact ⟨v, by rw [wipe_get, if_neg hi]; exact q1, q2⟩
theorem wipe_only {σ' : L2.St} {ls vs : List Nat} (o : OnlyS (L2.wipe σ vs) σ' ls) (h : ∀ i ∈ ls, i ∈ vs) : L2.wipe σ' vs = L2.wipe σ vs := by
  have hl : σ'.length = σ.length := o.1.trans (L2.wipe_length σ vs)
  apply List.ext_getElem?
  intro j
  rw [wipe_get, wipe_get]
  by_cases hj : j ∈ vs
  · rw [if_pos hj, if_pos hj]
    by_cases hb : j < σ.length
    · have h1 : j < σ'.length := by omega
      simp [hb, h1]
    · rw [List.getElem?_eq_none (by omega), List.getElem?_eq_none (by omega)]
  · rw [if_neg hj, if_neg hj]
    have := o.2 j fun z => hj (h j z)
    rw [this, wipe_get, if_neg hj]
/-- a comprehension's tests -/
def tC' (G : Gm) (F : Fns) (cs : Exs) : TT := fun σ H Q => ∃ m ρ h, HR G m h H ∧ ER G m H σ ρ ∧ postR G (fun _ _ _ _ => False) σ m H Q (evC F cs ρ h)
theorem rc_nil {X : Cx} : PTs X [] (tC' G F .nil) := ⟨fun pins s σ H Q I ⟨m, ρ, h, hr, er, hp⟩ => (pts_nil (X := X)).run pins s σ H Q I (hp m H .refl hr)⟩
theorem rc_one {X : Cx} {c : Expr} {c' : Ex} (hc : PT X c (tT G (fun _ _ _ _ => False) F c')) : PTs X [c] (tC' G F (.cons c' .nil)) := ⟨fun pins s σ H Q I ⟨m, ρ, h, hr, er, hp⟩ => (pts_one hc).run pins s σ H Q I ⟨m, ρ, h, hr, er, hp⟩⟩
theorem rc_stk {X : Cx} {ifs : List Expr} {a b : Ex} {r : Exs} : PTs X ifs (tC' G F (.cons a (.cons b r))) := ⟨fun pins s σ H Q I ⟨m, ρ, h, hr, er, hp⟩ => hp.elim⟩
abbrev W0 : WX := fun _ _ _ _ => False
theorem r_lc {elt iter : Expr} {ifs : List Expr} {scope : Scope} {own : List (Str × Nat)} {i' : Iw} {t' : Tg} {cs' : Exs} (hc : X.calm = true) (hN : X.N.Nodup) (hi : PI X tg iter (tI G W F i')) (ok : BlkOk X.N X.env.scope scope own)
    (hg : ∀ (s : Shared) (H : Hp) (C : Addr) (cl : List (Str × Addr)) (fp : List Addr), PG (X.blk s H scope (compEnvC scope cl C X.env) fp) tg (tG G F t')) (ht : ∀ (s : Shared) (H : Hp) (C : Addr) (cl : List (Str × Addr)) (fp : List Addr), PTs (X.blk s H scope (compEnvC scope cl C X.env) fp) ifs (tC' G F cs'))
    (he : ∀ (s : Shared) (H : Hp) (C : Addr) (cl : List (Str × Addr)) (fp : List Addr), PE (X.blk s H scope (compEnvC scope cl C X.env) fp) elt (tE G W0 F e')) (hs : ∀ x, foldedSetIterable iter X.env x = pure x) (hw : ∀ i ∈ tgS t', i ∈ own.map (·.2)) :
    ∀ σ H Q, tE G W F (.lc e' t' i' cs' (own.map (·.2))) σ H Q → tLc (tI G W F i') (tG G F t') (tC' G F cs') (tE G W0 F e') (own.map (·.2)) σ H Q := by
  intro σ H Q ⟨m, ρ, h, hr, er, hp⟩
  refine ⟨m, ρ, h, hr, er, ?_⟩
  generalize hvs : own.map (·.2) = vs at hp hw ⊢
  generalize htn : (fun x h => (evT F t' x (wipeE ρ vs) h).bind fun ρ' h => (evC F cs' ρ' h).bind fun b h => if b = true then (evE F e' ρ' h).bind fun d h => Res.ok (some d) h else Res.ok none h : D → PH → Res (Option D)) = turn
  have hp : post G W σ m H Q ((evI F i' ρ h).bind fun w h => (lcS turn (fun h' => kept h h' w.keep) w.items [] h).bind fun ds h => newL ds h) := by rw [← htn]; exact hp
  cases q : evI F i' ρ h with
  | stk => rw [q] at hp; exact hp
  | exc c h' => rw [q] at hp; exact hp
  | ok w h1 =>
    rw [q] at hp
    have hp1 : post G W σ m H Q ((lcS turn (fun h' => kept h1 h' w.keep) w.items [] h1).bind fun ds h => newL ds h) := hp
    intro m1 H1 J e1 hr1 sv Dd hn
    have er1 := er.mono e1
    have hp1 := post_ext e1 hp1
    have hnm : Dd ∉ m1 := hr1.fresh hn
    refine ⟨fun i n H2 => n = w.items.length - i ∧ i ≤ w.items.length ∧ ∃ m2 h2 acc av, Ext G.K m1 H1 m2 H2 ∧ HR G m2 h2 H2 ∧ kept h1 h2 w.keep = true ∧ H2 Dd = some (.lst av) ∧ VDs G m2 H2 av acc ∧ Dd ∉ m2 ∧
      post G W σ m1 H1 Q ((lcS turn (fun h' => kept h1 h' w.keep) (w.items.drop i) acc h2).bind fun ds h => newL ds h), ⟨_, rfl, Nat.zero_le _, m1, h1, [], [], ?_⟩, ?_⟩
    · exact ⟨ext_side .refl hn (.inl hn), hr1.side (.inl hn) hnm, by unfold kept; simp, upd_same, .nil, hnm, hp1⟩
    · rintro i n H2 ⟨rfl, hi, m2, h2, acc, av, e2, hr2, k2, hD, hv, hnm2, hp2⟩
      by_cases hlt : i < w.items.length
      · obtain ⟨hgo, hyl⟩ := (sv i m2 H2 h2 e2 hr2 k2).1 w.items[i] (by simp [hlt])
        refine .inr ⟨hgo, fun H' => _, fun H' hH' => ⟨w.items.length - (i + 1), by omega, hH'⟩, fun x H' y => ?_⟩
        obtain ⟨ee, hr', vdx⟩ := hyl x H' y
        rw [List.drop_eq_getElem_cons hlt] at hp2
        have hp3 : post G W σ m1 H1 Q ((match turn w.items[i] h2 with
          | .ok (some d) h' => if kept h1 h' w.keep = true ∧ acc.length < mx then lcS turn (fun h' => kept h1 h' w.keep) (w.items.drop (i + 1)) (acc ++ [d]) h' else .stk
          | .ok none h' => if kept h1 h' w.keep = true then lcS turn (fun h' => kept h1 h' w.keep) (w.items.drop (i + 1)) acc h' else .stk
          | .exc _ _ => .stk
          | .stk => .stk : Res (List D)).bind fun ds h => newL ds h) := hp2
        rw [← htn] at hp3
        dsimp only at hp3
        rw [htn] at hp3
        refine ⟨m2, wipeE ρ vs, h2, w.items[i], hr', (er1.mono (e2.trans ee)).wipe vs, vdx, ?_⟩
        cases q1 : evT F t' w.items[i] (wipeE ρ vs) h2 with
        | stk => rw [q1] at hp3; exact hp3
        | exc c h' => rw [q1] at hp3; exact hp3
        | ok ρ' h3 =>
          rw [q1] at hp3
          dsimp only [Res.bind] at hp3
          intro m3 σ2 H3 e3 hr3 er3 os
          refine ⟨wipe_only os hw, m3, ρ', h3, hr3, er3, ?_⟩
          cases q2 : evC F cs' ρ' h3 with
          | stk => rw [q2] at hp3; exact hp3
          | exc c h' => rw [q2] at hp3; exact hp3.elim
          | ok b h4 =>
            rw [q2] at hp3
            dsimp only [Res.bind] at hp3
            intro m4 H4 e4 hr4
            have hDH' : H' Dd = some (.lst av) := by rw [ee.fr Dd hnm2 (by rw [hD]; exact fun z => nomatch z)]; exact hD
            cases b with
            | true =>
              rw [if_pos rfl] at hp3 ⊢
              refine ⟨m4, ρ', h4, hr4, er3.mono e4, ?_⟩
              cases q3 : evE F e' ρ' h4 with
              | stk => rw [q3] at hp3; exact hp3
              | exc c h' => rw [q3] at hp3; exact hp3.elim
              | ok yd h5 =>
                rw [q3] at hp3
                dsimp only [Res.bind] at hp3
                intro m5 yv H5 e5 hr5 vd5
                have ex : Ext G.K m2 H' m5 H5 := e3.trans (e4.trans e5)
                have hD5 : H5 Dd = some (.lst av) := by rw [ex.fr Dd hnm2 (by rw [hDH']; exact fun z => nomatch z)]; exact hDH'
                have hnm5 : Dd ∉ m5 := fun z => by
                  have := ex.new Dd z hnm2
                  rw [hDH'] at this; cases this
                by_cases hk : kept h1 h5 w.keep = true ∧ acc.length < mx
                · rw [if_pos hk] at hp3
                  refine ⟨av, hD5, by rw [hv.len, ← mx_eq]; exact hk.2, rfl, hlt, m5, h5, acc ++ [yd], av ++ [yv], ext_side (e2.trans (ee.trans ex)) hn (wr_lst hD5), hr5.side (wr_lst hD5) hnm5, hk.1, upd_same, ?_, hnm5, hp3⟩
                  exact ((hv.mono (ee.trans ex)).append (.cons vd5 .nil)).mono2 (fun h => h) (tups_upd (wr_lst hD5)) (frz_upd (wr_lst hD5))
                · rw [if_neg hk] at hp3
                  exact hp3.elim
            | false =>
              rw [if_neg Bool.false_ne_true] at hp3 ⊢
              have ex : Ext G.K m2 H' m4 H4 := e3.trans e4
              have hD4 : H4 Dd = some (.lst av) := by rw [ex.fr Dd hnm2 (by rw [hDH']; exact fun z => nomatch z)]; exact hDH'
              have hnm4 : Dd ∉ m4 := fun z => by
                have := ex.new Dd z hnm2
                rw [hDH'] at this; cases this
              dsimp only at hp3
              by_cases hk : kept h1 h4 w.keep = true
              · rw [if_pos hk] at hp3
                exact ⟨rfl, hlt, m4, h4, acc, av, e2.trans (ee.trans ex), hr4, hk, hD4, hv.mono (ee.trans ex), hnm4, hp3⟩
              · rw [if_neg hk] at hp3
                exact hp3.elim
      · have e : i = w.items.length := by omega
        subst e
        refine .inl ⟨(sv _ m2 H2 h2 e2 hr2 k2).2 rfl, ?_⟩
        rw [List.drop_length] at hp2
        have hp3 : post G W σ m1 H1 Q (newL acc h2) := hp2
        refine hp3 (m2 ++ [Dd]) (.ref Dd) H2 (ext_add e2 hn) (hr2.add hD hnm2 hv) (.ref ?_)
        rw [← hr2.len, List.getElem?_append_right (Nat.le_refl _)]
        simp
end
end Mp

set_option Elab.async false
set_option linter.all false
set_option maxRecDepth 100000
set_option maxHeartbeats 1000000
/-! C9: statements. -/
namespace Mp
open PySem PySem.Spec PyProof.Rows L2
section
variable {G : Gm} {W : WX} {F : Fns} {X : Cx} {m m' : List Addr} {H H' : Hp} {h h' : PH} {σ : L2.St} {ρ : Env} {D : Ends}
/-- behind a statement -/
def postS (G : Gm) (W : WX) (m : List Addr) (H : Hp) (D : Ends) : SRes → Prop
  | .nx ρ h => ∀ m' σ' H', Ext G.K m H m' H' → HR G m' h H' → ER G m' H' σ' ρ → D.nx σ' H'
  | .rt d h => ∀ m' v H', Ext G.K m H m' H' → HR G m' h H' → VD G m' H' v d → D.rt v H'
  | .bk ρ h => ∀ m' σ' H', Ext G.K m H m' H' → HR G m' h H' → ER G m' H' σ' ρ → D.bk σ' H'
  | .ct ρ h => ∀ m' σ' H', Ext G.K m H m' H' → HR G m' h H' → ER G m' H' σ' ρ → D.ct σ' H'
  | .ex c ρ h => ∀ m' σ' H', Ext G.K m H m' H' → HR G m' h H' → ER G m' H' σ' ρ → W (G.xa c) none σ' H'
  | .stk => False
theorem postS_ext {r : SRes} (e : Ext G.K m H m' H') (p : postS G W m H D r) : postS G W m' H' D r := by
  cases r with
  | nx ρ h => exact fun m2 σ2 H2 e2 => p m2 σ2 H2 (e.trans e2)
  | rt d h => exact fun m2 σ2 H2 e2 => p m2 σ2 H2 (e.trans e2)
  | bk ρ h => exact fun m2 σ2 H2 e2 => p m2 σ2 H2 (e.trans e2)
  | ct ρ h => exact fun m2 σ2 H2 e2 => p m2 σ2 H2 (e.trans e2)
  | ex c ρ h => exact fun m2 σ2 H2 e2 => p m2 σ2 H2 (e.trans e2)
  | stk => exact p
def tS (G : Gm) (W : WX) (F : Fns) (s : Mp.St) : TS := fun D σ H => ∃ m ρ h, HR G m h H ∧ ER G m H σ ρ ∧ postS G W m H D (evS F s ρ h)
def tSs (G : Gm) (W : WX) (F : Fns) (b : Ss) : TS := fun D σ H => ∃ m ρ h, HR G m h H ∧ ER G m H σ ρ ∧ postS G W m H D (evSs F b ρ h)
theorem sb_post {r : Res Mp.D} {f : Mp.D → PH → SRes} (er : ER G m H σ ρ) (p : postS G W m H D (r.sb ρ f)) :
    post G W σ m H (fun v H1 => ∃ m1 d h1, Ext G.K m H m1 H1 ∧ HR G m1 h1 H1 ∧ VD G m1 H1 v d ∧ postS G W m1 H1 D (f d h1)) r := by
  cases r with
  | ok d h' => exact fun m1 v H1 e hr vd => ⟨m1, d, h', e, hr, vd, postS_ext e p⟩
  | exc c h' => exact fun m1 H1 e hr => p m1 σ H1 e hr (er.mono e)
  | stk => exact p
theorem sb_postR {α : Type} {r : Res α} {f : α → PH → SRes} (er : ER G m H σ ρ) (p : postS G W m H D (r.sb ρ f)) :
    postR G W σ m H (fun a H1 => ∃ m1 h1, Ext G.K m H m1 H1 ∧ HR G m1 h1 H1 ∧ postS G W m1 H1 D (f a h1)) r := by
  cases r with
  | ok d h' => exact fun m1 H1 e hr => ⟨m1, h', e, hr, postS_ext e p⟩
  | exc c h' => exact fun m1 H1 e hr => p m1 σ H1 e hr (er.mono e)
  | stk => exact p
/-- a target stores -/
theorem tgt_post {t : Tg} {d : Mp.D} {v : V} {f : Env → PH → SRes} (hr : HR G m h H) (er : ER G m H σ ρ) (vd : VD G m H v d) (p : postS G W m H D ((evT F t d ρ h).nx.sb ρ fun ρ h => f ρ h)) :
    tG G F t v σ H (fun σ' H' => ∃ m' ρ' h', Ext G.K m H m' H' ∧ HR G m' h' H' ∧ ER G m' H' σ' ρ' ∧ postS G W m' H' D (f ρ' h')) := by
  refine ⟨m, ρ, h, d, hr, er, vd, ?_⟩
  cases q : evT F t d ρ h with
  | stk => rw [q] at p; exact p
  | exc c h' => rw [q] at p; exact p.elim
  | ok ρ' h' =>
    rw [q] at p
    exact fun m' σ' H' e hr er _ => ⟨m', ρ', h', e, hr, er, postS_ext e p⟩
theorem tG_imp {t : Tg} {v : V} {Q Q' : L2.St → Hp → Prop} (p : tG G F t v σ H Q) (i : ∀ σ' H', Q σ' H' → Q' σ' H') : tG G F t v σ H Q' := by
  obtain ⟨m, ρ, h, d, hr, er, vd, p⟩ := p
  refine ⟨m, ρ, h, d, hr, er, vd, ?_⟩
  cases q : evT F t d ρ h with
  | stk => rw [q] at p; exact p
  | exc c h' => rw [q] at p; exact p
  | ok ρ' h' =>
    rw [q] at p
    exact fun m' σ' H' e hr er o => i _ _ (p m' σ' H' e hr er o)
variable {e f a b c o : Expr} {e' f' a' b' c' o' : Ex} {tg iter : Expr} {tg' : Tg} {i' : Iw} {pos pos' : Pos} {st : Stmt} {body rest els : List Stmt} {st' : Mp.St} {body' rest' els' : Ss}
theorem rs_stk : PS X st (tS G W F .stk) := ⟨fun pins s σ H D I ⟨m, ρ, h, hr, er, hp⟩ => hp.elim⟩
theorem rs_pass : PS X (.Pass pos) (tS G W F .pass) := (ps_pass (X := X)).weaken fun D σ H ⟨m, ρ, h, hr, er, hp⟩ => hp m σ H .refl hr er
theorem rs_brk : PS X (.Break pos) (tS G W F .brk) := (ps_break (X := X)).weaken fun D σ H ⟨m, ρ, h, hr, er, hp⟩ => hp m σ H .refl hr er
theorem rs_cnt : PS X (.Continue pos) (tS G W F .cnt) := (ps_continue (X := X)).weaken fun D σ H ⟨m, ρ, h, hr, er, hp⟩ => hp m σ H .refl hr er
theorem rss_nil : PSs X [] (tSs G W F .nil) := ⟨fun pins s σ H D I ⟨m, ρ, h, hr, er, hp⟩ => (pss_nil (X := X)).run pins s σ H D I (hp m σ H .refl hr er)⟩
theorem rss_cons (h1 : PS X st (tS G W F st')) (h2 : PSs X rest (tSs G W F rest')) : PSs X (st :: rest) (tSs G W F (.cons st' rest')) := by
  refine ⟨fun pins s σ H D I ⟨m, ρ, h, hr, er, hp⟩ => (pss_cons h1 h2).run pins s σ H D I ⟨m, ρ, h, hr, er, ?_⟩⟩
  have hp' : postS G W m H D ((evS F st' ρ h).sq (evSs F rest')) := hp
  cases q : evS F st' ρ h with
  | nx ρ' h' => rw [q] at hp'; exact fun m' σ' H' e hr' er' => ⟨m', ρ', h', hr', er', postS_ext e hp'⟩
  | rt d h' => rw [q] at hp'; exact hp'
  | bk ρ h' => rw [q] at hp'; exact hp'
  | ct ρ h' => rw [q] at hp'; exact hp'
  | ex c ρ h' => rw [q] at hp'; exact hp'
  | stk => rw [q] at hp'; exact hp'
theorem rs_asg (he : PE X e (tE G W F e')) (hg : PG X tg (tG G F tg')) (hs : swapsWithSole [tg] e pos.line X.env = pure false) (hw : swappedStores [tg] e X.env = pure none)
    (h1 : (assignEach [tg] X.env).map (·.2) = [assign tg X.env]) : PS X (.Assign [tg] e pos) (tS G W F (.asg tg' e')) := by
  refine (ps_asg he hg hs hw h1).weaken fun D σ H ⟨m, ρ, h, hr, er, hp⟩ => ?_
  refine ⟨m, ρ, h, hr, er, post_imp (sb_post er hp) fun v H1 ⟨m1, d1, h1, e1, hr1, vd1, hp1⟩ => ?_⟩
  exact tG_imp (tgt_post (f := fun ρ h => .nx ρ h) hr1 (er.mono e1) vd1 hp1) fun σ' H' ⟨m', ρ', h', e2, hr2, er2, hp2⟩ => hp2 m' σ' H' .refl hr2 er2
theorem rs_set {i : Nat} {x : Str} (hN : X.N.Nodup) (hi : X.N[i]? = some x) (hx : Loc X.env.scope x) (he : PE X e (tE G W F e')) (hs : swapsWith e (some (.Name x pos')) pos.line X.env = pure false) (hf : X.fn x = true ∨ X.env.scope.names.lookup x = some .local) :
    PS X (.Assign [.Name x pos'] e pos) (tS G W F (.asg (.name i) e')) := by
  refine (ps_set hN hi hx he hs hf).weaken fun D σ H ⟨m, ρ, h, hr, er, hp⟩ => ?_
  exact ⟨m, ρ, h, hr, er, post_imp (sb_post er hp) fun v H1 ⟨m1, d1, h1, e1, hr1, vd1, hp1⟩ => hp1 m1 _ H1 .refl hr1 ((er.mono e1).set vd1)⟩
/-- name = [..], its reading that of the comprehension -/
theorem rs_setT {i : Nat} {te : TE} (h0 : PS X st (tAsg te (gName i))) (ht : ∀ σ H Q, tE G W F e' σ H Q → te σ H Q) : PS X st (tS G W F (.asg (.name i) e')) := by
  refine h0.weaken fun D σ H ⟨m, ρ, h, hr, er, hp⟩ => ht σ H _ ?_
  exact ⟨m, ρ, h, hr, er, post_imp (sb_post er hp) fun v H1 ⟨m1, d1, h1, e1, hr1, vd1, hp1⟩ => hp1 m1 _ H1 .refl hr1 ((er.mono e1).set vd1)⟩
theorem sfld_of {v w : V} {x d : Mp.D} {fl : Str} {h' : PH} (hr : HR G m h H) (vx : VD G m H v x) (vd : VD G m H w d) (q : sfldop F x fl d h = .ok () h') :
    ∃ a c dx fs, v = .ref a ∧ H a = some (.ins (G.ca c) dx fs) ∧ F.fld c fl = true ∧ fs.length < 1000 ∧ Ext G.K m H m (upd H a (.ins (G.ca c) dx (L2.putF fl w fs))) ∧ HR G m h' (upd H a (.ins (G.ca c) dx (L2.putF fl w fs))) := by
  unfold sfldop at q
  split at q
  · rename_i l
    split at q
    · rename_i c fs eo
      split at q
      · rename_i hc
        cases q
        cases vx with
        | @ref a l hl =>
          obtain ⟨dx, vs, q1, q2, q3⟩ := hr.of hl eo
          have ee : Ext G.K m H m (upd H a (.ins (G.ca c) dx (L2.putF fl w vs))) := ext_upd (wr_ins q1) (List.mem_of_getElem? hl)
          refine ⟨a, c, dx, vs, rfl, q1, hc.2, by rw [fvd_len q3]; exact hc.1, ee, hr.put hl eo (wr_ins q1) ⟨dx, _, upd_same, ?_, fvd_put (vd.mono ee) (q3.mono ee)⟩⟩
          rw [upd_ne (by rintro rfl; rw [q1] at q2; cases q2)]
          exact q2
      · cases q
    · cases q
  · cases q
theorem rs_sfd {fl : Str} (hf : ∀ c, F.fld c fl = true → Cls X.K (G.ca c) ∧ NoAttr X.K (G.ca c) fl) (ho : PE X o (tE G W F o')) (he : PE X e (tE G W F e')) (hs : swapsWith e (some (.Attribute o fl pos')) pos.line X.env = pure false) :
    PS X (.Assign [.Attribute o fl pos'] e pos) (tS G W F (.sfd o' fl e')) := by
  refine (ps_fld ho he hs).weaken fun D σ H ⟨m, ρ, h, hr, er, hp⟩ => ?_
  refine ⟨m, ρ, h, hr, er, post_imp (sb_post er hp) fun w H1 ⟨m1, d1, h1, e1, hr1, vd1, hp1⟩ => ?_⟩
  refine ⟨m1, ρ, h1, hr1, er.mono e1, post_imp (sb_post (er.mono e1) hp1) fun v H2 ⟨m2, d2, h2, e2, hr2, vd2, hp2⟩ => ?_⟩
  cases q : sfldop F d2 fl d1 h2 with
  | stk => rw [q] at hp2; exact hp2.elim
  | exc c h' =>
    exfalso
    unfold sfldop at q
    split at q
    · split at q
      · split at q <;> cases q
      · cases q
    · cases q
  | ok u h3 =>
    rw [q] at hp2
    obtain ⟨p, c, dx, fs, rfl, q1, q2, q3, q4, q5⟩ := sfld_of hr2 vd2 (vd1.mono e2) q
    obtain ⟨k1, k2⟩ := hf c q2
    exact ⟨p, G.ca c, dx, fs, rfl, q1, k1, k2, q3, hp2 m2 σ _ q4 q5 (er.mono (e1.trans (e2.trans q4)))⟩
theorem rs_par {i j : Nat} {x y : Str} {px py pt : Pos} {kt k2 : Nat} {pt2 : Pos} (hc : X.calm = true) (hN : X.N.Nodup) (hi : X.N[i]? = some x) (hj : X.N[j]? = some y) (hij : i ≠ j)
    (hx : X.env.scope.names.lookup x = some .local) (hy : X.env.scope.names.lookup y = some .local) (ha : PE X a (tE G W F a')) (hb : PE X b (tE G W F b')) (hs1 : starEach [a, b] X.env = (false, eval a X.env) :: starEach [b] X.env) (hs2 : starEach [b] X.env = (false, eval b X.env) :: starEach [] X.env)
    (hw : swappedStores [.Tuple [.Name x px, .Name y py] kt pt] (.Tuple [a, b] k2 pt2) X.env = pure (some [x, y]))
    (hs : swapsWithSole [.Tuple [.Name x px, .Name y py] kt pt] (.Tuple [a, b] k2 pt2) pos.line X.env = pure false) :
    PS X (.Assign [.Tuple [.Name x px, .Name y py] kt pt] (.Tuple [a, b] k2 pt2) pos) (tS G W F (.par i j a' b')) := by
  refine (ps_par hc hN hi hj hij hx hy (pa_cons ha (pa_cons hb pa_nil hs2) hs1) hw hs).weaken fun D σ H ⟨m, ρ, h, hr, er, hp⟩ => ?_
  refine ⟨m, ρ, h, hr, er, post_imp (sb_post er hp) fun v H1 ⟨m1, d1, h1, e1, hr1, vd1, hp1⟩ => ?_⟩
  refine ⟨m1, ρ, h1, hr1, er.mono e1, post_imp (sb_post (er.mono e1) hp1) fun w H2 ⟨m2, d2, h2, e2, hr2, vd2, hp2⟩ => ?_⟩
  exact ⟨v, w, rfl, hp2 m2 _ H2 .refl hr2 (((er.mono (e1.trans e2)).set (vd1.mono e2)).set vd2)⟩
theorem rs_ex (he : PE X e (tE G W F e')) (hs : swapsWith e none pos.line X.env = pure false) : PS X (.Expr e pos) (tS G W F (.ex e')) := by
  refine (ps_expr he hs).weaken fun D σ H ⟨m, ρ, h, hr, er, hp⟩ => ?_
  exact ⟨m, ρ, h, hr, er, post_imp (sb_post er hp) fun v H1 ⟨m1, d1, h1, e1, hr1, vd1, hp1⟩ => hp1 m1 σ H1 .refl hr1 (er.mono e1)⟩
theorem rs_ret (he : PE X e (tE G W F e')) : PS X (.Return (some e) pos) (tS G W F (.ret e')) := by
  refine (ps_ret he).weaken fun D σ H ⟨m, ρ, h, hr, er, hp⟩ => ?_
  exact ⟨m, ρ, h, hr, er, post_imp (sb_post er hp) fun v H1 ⟨m1, d1, h1, e1, hr1, vd1, hp1⟩ => hp1 m1 v H1 .refl hr1 vd1⟩
theorem rs_retN : PS X (.Return none pos) (tS G W F .retN) := (ps_retN (X := X)).weaken fun D σ H ⟨m, ρ, h, hr, er, hp⟩ => hp m .non H .refl hr .non
theorem rs_if (hc : PT X c (tT G W F c')) (ha : PSs X body (tSs G W F body')) (hb : PSs X els (tSs G W F els')) : PS X (.If c body els pos) (tS G W F (.ife c' body' els')) := by
  refine (ps_if hc ha hb).weaken fun D σ H ⟨m, ρ, h, hr, er, hp⟩ => ?_
  refine ⟨m, ρ, h, hr, er, postR_imp (sb_postR er hp) fun k H1 ⟨m1, h1, e1, hr1, hp1⟩ => ?_⟩
  cases k with
  | true => rw [if_pos rfl] at hp1 ⊢; exact ⟨m1, ρ, h1, hr1, er.mono e1, hp1⟩
  | false => rw [if_neg Bool.false_ne_true] at hp1 ⊢; exact ⟨m1, ρ, h1, hr1, er.mono e1, hp1⟩
theorem rs_whl (hpa : PassesOwn (model X.prog X.w) X.A X.env X.xe) (hc : PT X c (tT G W F c')) (hb : PSs X body (tSs G W F body')) : PS X (.While c body [] pos) (tS G W F (.whl c' body')) := by
  refine (ps_while hpa hc hb).weaken fun D σ H ⟨m, ρ, h, hr, er, hp⟩ => ?_
  refine ⟨fun n σ H => ∃ m ρ h, HR G m h H ∧ ER G m H σ ρ ∧ postS G W m H D (whlS (evB F c') (evSs F body') n ρ h), ⟨wlim, m, ρ, h, hr, er, hp⟩, ?_⟩
  rintro n σ1 H1 ⟨m1, ρ1, h1, hr1, er1, hp1⟩
  cases n with
  | zero => exact hp1.elim
  | succ n =>
    refine ⟨m1, ρ1, h1, hr1, er1, postR_imp (sb_postR er1 hp1) fun k H2 ⟨m2, h2, e2, hr2, hp2⟩ => ?_⟩
    cases k with
    | false =>
      rw [if_neg Bool.false_ne_true] at hp2 ⊢
      exact hp2 m2 σ1 H2 .refl hr2 (er1.mono e2)
    | true =>
      rw [if_pos rfl] at hp2 ⊢
      refine ⟨fun σ H => ∃ m ρ h, HR G m h H ∧ ER G m H σ ρ ∧ postS G W m H D (whlS (evB F c') (evSs F body') n ρ h), fun σ' H' q => ⟨n, Nat.lt_succ_self n, q⟩, m2, ρ1, h2, hr2, er1.mono e2, ?_⟩
      cases q : evSs F body' ρ1 h2 with
      | nx ρ3 h3 => rw [q] at hp2; exact fun m3 σ3 H3 e3 hr3 er3 => ⟨m3, ρ3, h3, hr3, er3, postS_ext e3 hp2⟩
      | ct ρ3 h3 => rw [q] at hp2; exact fun m3 σ3 H3 e3 hr3 er3 => ⟨m3, ρ3, h3, hr3, er3, postS_ext e3 hp2⟩
      | bk ρ3 h3 => rw [q] at hp2; exact hp2
      | rt d3 h3 => rw [q] at hp2; exact hp2
      | ex c3 ρ3 h3 => rw [q] at hp2; exact hp2
      | stk => rw [q] at hp2; exact hp2
theorem rs_for (hpa : PassesOwn (model X.prog X.w) X.A X.env X.xe) (hc : X.calm = true) (hi : PI X tg iter (tI G W F i')) (hg : PG X tg (tG G F tg')) (hb : PSs X body (tSs G W F body')) (hs : ∀ x, foldedSetIterable iter X.env x = pure x) :
    PS X (.For tg iter body [] pos) (tS G W F (.for_ tg' i' body')) := by
  refine (ps_for hpa hc hi hg hb hs).weaken fun D σ H ⟨m, ρ, h, hr, er, hp⟩ => ?_
  refine ⟨m, ρ, h, hr, er, ?_⟩
  have hp : postS G W m H D ((evI F i' ρ h).sb ρ fun w h => forS (fun x ρ h' => (evT F tg' x ρ h').nx.sb ρ fun ρ h' => evSs F body' ρ h') (fun h' => kept h h' w.keep) w.items ρ h) := hp
  cases q : evI F i' ρ h with
  | stk => rw [q] at hp; exact hp
  | exc c h' => rw [q] at hp; exact fun m1 H1 e hr => hp m1 σ H1 e hr (er.mono e)
  | ok w h1 =>
    rw [q] at hp
    generalize htn : (fun x ρ h' => (evT F tg' x ρ h').nx.sb ρ fun ρ h' => evSs F body' ρ h' : Mp.D → Env → PH → SRes) = turn at hp
    have hp1 : postS G W m H D (forS turn (fun h' => kept h1 h' w.keep) w.items ρ h1) := hp
    intro m1 H1 J e1 hr1 sv
    have er1 := er.mono e1
    have hp1 := postS_ext e1 hp1
    refine ⟨fun i n σ2 H2 => n = w.items.length - i ∧ i ≤ w.items.length ∧ ∃ m2 ρ2 h2, Ext G.K m1 H1 m2 H2 ∧ HR G m2 h2 H2 ∧ ER G m2 H2 σ2 ρ2 ∧ kept h1 h2 w.keep = true ∧ postS G W m2 H2 D (forS turn (fun h' => kept h1 h' w.keep) (w.items.drop i) ρ2 h2),
      ⟨_, rfl, Nat.zero_le _, m1, ρ, h1, .refl, hr1, er1, by unfold kept; simp, hp1⟩, ?_⟩
    rintro i n σ2 H2 ⟨rfl, hi, m2, ρ2, h2, e2, hr2, er2, k2, hp2⟩
    by_cases hlt : i < w.items.length
    · obtain ⟨hgo, hyl⟩ := (sv i m2 H2 h2 e2 hr2 k2).1 w.items[i] (by simp [hlt])
      refine .inr ⟨hgo, fun σ' H' => _, fun σ' H' hH' => ⟨w.items.length - (i + 1), by omega, hH'⟩, fun x H' y => ?_⟩
      obtain ⟨ee, hr', vdx⟩ := hyl x H' y
      rw [List.drop_eq_getElem_cons hlt] at hp2
      have hp3 : postS G W m2 H2 D (match turn w.items[i] ρ2 h2 with
        | .nx ρ' h' => if kept h1 h' w.keep = true then forS turn (fun h' => kept h1 h' w.keep) (w.items.drop (i + 1)) ρ' h' else .stk
        | .ct ρ' h' => if kept h1 h' w.keep = true then forS turn (fun h' => kept h1 h' w.keep) (w.items.drop (i + 1)) ρ' h' else .stk
        | .bk ρ' h' => .nx ρ' h'
        | r => r) := hp2
      rw [← htn] at hp3
      dsimp only at hp3
      rw [htn] at hp3
      refine ⟨m2, ρ2, h2, w.items[i], hr', er2.mono ee, vdx, ?_⟩
      cases q1 : evT F tg' w.items[i] ρ2 h2 with
      | stk => rw [q1] at hp3; exact hp3.elim
      | exc c h' => rw [q1] at hp3; exact hp3.elim
      | ok ρ' h3 =>
        rw [q1] at hp3
        intro m3 σ3 H3 e3 hr3 er3 os
        refine ⟨m3, ρ', h3, hr3, er3, ?_⟩
        have e23 := ee.trans e3
        have hp4 : postS G W m2 H2 D (match evSs F body' ρ' h3 with
          | .nx ρ' h' => if kept h1 h' w.keep = true then forS turn (fun h' => kept h1 h' w.keep) (w.items.drop (i + 1)) ρ' h' else .stk
          | .ct ρ' h' => if kept h1 h' w.keep = true then forS turn (fun h' => kept h1 h' w.keep) (w.items.drop (i + 1)) ρ' h' else .stk
          | .bk ρ' h' => .nx ρ' h'
          | r => r) := hp3
        have hp5 := postS_ext e23 hp4
        cases q2 : evSs F body' ρ' h3 with
        | nx ρ4 h4 =>
          rw [q2] at hp5
          dsimp only at hp5
          by_cases hk : kept h1 h4 w.keep = true
          · rw [if_pos hk] at hp5
            exact fun m4 σ4 H4 e4 hr4 er4 => ⟨rfl, hlt, m4, ρ4, h4, e2.trans (e23.trans e4), hr4, er4, hk, postS_ext e4 hp5⟩
          · rw [if_neg hk] at hp5
            exact hp5.elim
        | ct ρ4 h4 =>
          rw [q2] at hp5
          dsimp only at hp5
          by_cases hk : kept h1 h4 w.keep = true
          · rw [if_pos hk] at hp5
            exact fun m4 σ4 H4 e4 hr4 er4 => ⟨rfl, hlt, m4, ρ4, h4, e2.trans (e23.trans e4), hr4, er4, hk, postS_ext e4 hp5⟩
          · rw [if_neg hk] at hp5
            exact hp5.elim
        | bk ρ4 h4 => rw [q2] at hp5; exact hp5
        | rt d4 h4 => rw [q2] at hp5; exact hp5
        | ex c4 ρ4 h4 => rw [q2] at hp5; exact hp5
        | stk => rw [q2] at hp5; exact hp5
    · have e : i = w.items.length := by omega
      subst e
      rw [List.drop_length] at hp2
      exact .inl ⟨(sv _ m2 H2 h2 e2 hr2 k2).2 rfl, hp2 m2 σ2 H2 .refl hr2 er2⟩
theorem aug_ip {bo : Bop} {op : Operator} (hop : match bo with | .add => op = .Add | .sub => op = .Sub | _ => False) : PIp X op (fun x y H Q => ∃ m a b d, VD G m H x a ∧ VD G m H y b ∧ augop bo a b = some d ∧ ∀ v, VD G m H v d → Q v H) := by
  intro pins s σ H x y v u Q I rx ry hq
  obtain ⟨m, a, b, d, va, vb, e, q⟩ := hq
  unfold augop at e
  split at e
  · cases hop
    cases e
    cases va; cases vb
    exact ip_add pins s σ H _ _ v u Q I rx ry ⟨_, _, rfl, rfl, q _ (.int _)⟩
  · cases hop
    cases e
    cases va; cases vb
    exact ip_sub pins s σ H _ _ v u Q I rx ry ⟨_, _, rfl, rfl, q _ (.int _)⟩
  · cases hop
    split at e
    · rename_i hl
      cases e
      cases va; cases vb
      exact augR (r := fun x y H Q => ∃ i j, x = .str i ∧ y = .str j ∧ i.length + j.length ≤ sizeLine ∧ Q (.str (i ++ j)) H) iop_add_str I rx ry ⟨_, _, rfl, rfl, by rw [← mx_eq]; exact hl, q _ (.str _)⟩
    · cases e
  · cases e
theorem rs_aug {i : Nat} {x : Str} {bo : Bop} {op : Operator} (hop : match bo with | .add => op = .Add | .sub => op = .Sub | _ => False) (hN : X.N.Nodup) (hi : X.N[i]? = some x) (hx : Loc X.env.scope x) (he : PE X e (tE G W F e')) (hf : X.fn x = true ∨ X.env.scope.names.lookup x = some .local) :
    PS X (.AugAssign (.Name x pos') op e pos) (tS G W F (.aug i bo e')) := by
  refine (ps_aug hN hi hx he (aug_ip (G := G) hop) hf).weaken fun D σ H ⟨m, ρ, h, hr, er, hp⟩ => ?_
  have hp' : postS G W m H D (match ρ[i]? with
    | some (some x) => (evE F e' ρ h).sb ρ fun y h => match augop bo x y with
      | some z => .nx (ρ.set i (some z)) h
      | none => .stk
    | _ => .stk) := hp
  split at hp'
  · rename_i d hd
    obtain ⟨v, h1, h2⟩ := er.2 i d hd
    refine ⟨v, h1, m, ρ, h, hr, er, post_imp (sb_post er hp') fun w H1 ⟨m1, d1, h1, e1, hr1, vd1, hp1⟩ => ?_⟩
    cases q : augop bo d d1 with
    | none => rw [q] at hp1; exact hp1.elim
    | some z =>
      rw [q] at hp1
      exact ⟨m1, d, d1, z, h2.mono e1, vd1, q, fun u vu => hp1 m1 _ H1 .refl hr1 ((er.mono e1).set vu)⟩
  · exact hp'.elim
end
end Mp

set_option Elab.async false
set_option linter.all false
set_option maxRecDepth 100000
set_option maxHeartbeats 1000000
/-! C10: the rules in the form in which a printed term takes them. -/
namespace Mp
open PySem PySem.Spec PyProof.Rows L2
/-- the text's names: its defs with their numbers and defaults; built-in names that the text leaves alone -/
structure TD where
  defs : List (Str × (Nat × List D))
  free : List Str
structure XOk (T : TD) (G : Gm) (W : WX) (F : Fns) (N : List Str) (S : Scope) (X : Cx) : Prop where
  hN : X.N = N
  hs : X.env.scope = S
  hK : X.K = G.K
  hu : X.A.units + 65 < cLine
  calm : X.calm = true
  nd : X.N.Nodup
  tk : L2N.Takes X W
  kd : X.env.scope.kind = .function
  fnc : ∀ x k dfl, T.defs.lookup x = some (k, dfl) → X.mg x = some (.ref (G.fa k)) ∧ FnC G F X k dfl
  free : ∀ x, T.free.contains x = true → X.mg x = none
def nmC (N : List Str) (sc : Scope) (i : Nat) (x : Str) : Bool :=
  decide (N[i]? = some x) && (match sc.names.lookup x with | some .local => true | some .cell => true | some .free => true | _ => false) && !(x == ("__debug__" : Str)) && !(x == ("__classdict__" : Str))
def stC (N : List Str) (sc : Scope) (i : Nat) (x : Str) : Bool := decide (N[i]? = some x) && (match sc.names.lookup x with | some .local => true | _ => false)
def glC (sc : Scope) (x : Str) : Bool := (match sc.names.lookup x with | some .globalImplicit => true | _ => false) && !(x == ("__debug__" : Str)) && decide (x ≠ "__name__")
theorem nmC_ok {N : List Str} {sc : Scope} {i : Nat} {x : Str} (h : nmC N sc i x = true) : N[i]? = some x ∧ Vis sc x ∧ (x == ("__debug__" : Str)) = false ∧ (x == ("__classdict__" : Str)) = false := by
  unfold nmC at h
  simp only [Bool.and_eq_true, decide_eq_true_eq, Bool.not_eq_true'] at h
  refine ⟨h.1.1.1, ?_, h.1.2, h.2⟩
  have q := h.1.1.2
  unfold Vis
  split at q
  · rename_i e; exact .inl e
  · rename_i e; exact .inr (.inl e)
  · rename_i e; exact .inr (.inr e)
  · cases q
theorem stC_ok {N : List Str} {sc : Scope} {i : Nat} {x : Str} (h : stC N sc i x = true) : N[i]? = some x ∧ sc.names.lookup x = some .local := by
  unfold stC at h
  simp only [Bool.and_eq_true, decide_eq_true_eq] at h
  refine ⟨h.1, ?_⟩
  have q := h.2
  split at q
  · rename_i e; exact e
  · cases q
theorem glC_ok {sc : Scope} {x : Str} (h : glC sc x = true) : sc.names.lookup x = some .globalImplicit ∧ (x == ("__debug__" : Str)) = false ∧ x ≠ "__name__" := by
  unfold glC at h
  simp only [Bool.and_eq_true, decide_eq_true_eq, Bool.not_eq_true'] at h
  refine ⟨?_, h.1.2, h.2⟩
  have q := h.1.1
  split at q
  · rename_i e; exact e
  · cases q
section
variable {N : List Str} {S : Scope} {T : TD} {G : Gm} {W : WX} {F : Fns} {X : Cx} {e a b c o f : Expr} {e' a' b' c' o' f' : Ex} {es : List Expr} {es' : Exs} {pos pos' p p2 apos : Pos}
theorem takesN0 {X : Cx} : L2N.Takes X W0 := fun _ _ x => by
  obtain ⟨_, _, _, _, _, _, _, _, _, _, _, _, _, _, _, _, z⟩ := x
  exact z.elim
theorem XOk.blk {s : Shared} {H : Hp} {sc : Scope} {C : Addr} {cl : List (Str × Addr)} {fp : List Addr} (ok : XOk T G W F N S X) (hk : sc.kind = .function) : XOk T G W0 F N (relS sc S) (X.blk s H sc (compEnvC sc cl C X.env) fp) :=
  ⟨ok.hN, (congrArg (relS sc) ok.hs : relS sc X.env.scope = relS sc S), ok.hK, ok.hu, ok.calm, ok.nd, takesN0, hk, fun x k dfl h => ⟨(ok.fnc x k dfl h).1, ⟨(ok.fnc x k dfl h).2.ex⟩⟩, ok.free⟩
theorem k_var (i : Nat) {x : Str} (ok : XOk T G W F N S X) (h : nmC N S i x = true := by kernel_rfl) : PE X (.Name x pos) (tE G W F (.var i)) := by
  obtain ⟨h1, h2, h3, h4⟩ := nmC_ok h
  exact r_var (by rw [ok.hN]; exact h1) (by rw [ok.hs]; exact h2) h3 h4
theorem gl_of {x : Str} (ok : XOk T G W F N S X) (hg : glC S x = true) : Gl X x ∧ (x == ("__debug__" : Str)) = false ∧ x ≠ "__name__" := by
  obtain ⟨g1, g2, g3⟩ := glC_ok hg
  exact ⟨(by show X.env.scope.names.lookup x = _; rw [ok.hs]; exact g1), g2, g3⟩
theorem k_int {i : Int} {j : Nat} : PE X (.Constant (.int i) j pos) (tE G W F (.cst (.int i))) := r_cst pe_int fun _ _ => .int i
theorem k_str {x : Str} {j : Nat} : PE X (.Constant (.str x) j pos) (tE G W F (.cst (.str x))) := r_cst pe_str fun _ _ => .str x
theorem k_bl {b : Bool} {j : Nat} : PE X (.Constant (.bool b) j pos) (tE G W F (.cst (.bl b))) := r_cst pe_bl fun _ _ => .bl b
theorem k_non {j : Nat} : PE X (.Constant .none j pos) (tE G W F (.cst .non)) := r_cst pe_non fun _ _ => .non
theorem k_add (ok : XOk T G W F N S X) (ha : PE X a (tE G W F a')) (hb : PE X b (tE G W F b')) : PE X (.BinOp a .Add b pos) (tE G W F (.bin .add a' b')) := r_bin (o := .add) ok.hK ha hb
theorem k_sub (ok : XOk T G W F N S X) (ha : PE X a (tE G W F a')) (hb : PE X b (tE G W F b')) : PE X (.BinOp a .Sub b pos) (tE G W F (.bin .sub a' b')) := r_bin (o := .sub) ok.hK ha hb
theorem k_mul (ok : XOk T G W F N S X) (ha : PE X a (tE G W F a')) (hb : PE X b (tE G W F b')) : PE X (.BinOp a .Mult b pos) (tE G W F (.bin .mul a' b')) := r_bin (o := .mul) ok.hK ha hb
theorem k_fdiv (ok : XOk T G W F N S X) (ha : PE X a (tE G W F a')) (hb : PE X b (tE G W F b')) : PE X (.BinOp a .FloorDiv b pos) (tE G W F (.bin .fdiv a' b')) := r_bin (o := .fdiv) ok.hK ha hb
theorem k_mod (ok : XOk T G W F N S X) (ha : PE X a (tE G W F a')) (hb : PE X b (tE G W F b')) : PE X (.BinOp a .Mod b pos) (tE G W F (.bin .mod a' b')) := r_bin (o := .mod) ok.hK ha hb
theorem k_pow (ok : XOk T G W F N S X) (ha : PE X a (tE G W F a')) (hb : PE X b (tE G W F b')) : PE X (.BinOp a .Pow b pos) (tE G W F (.bin .pow a' b')) := r_bin (o := .pow) ok.hK ha hb
theorem k_ix (ok : XOk T G W F N S X) (ha : PE X a (tE G W F a')) (hb : PE X b (tE G W F b')) (hs : PlainIx b := by intro _ _; rfl) : PE X (.Subscript a b pos) (tE G W F (.ix a' b')) := r_ix ok.hK ok.hu ha hb hs
theorem k_sl {lo hi : Option Expr} {lo' hi' : Opt} (ok : XOk T G W F N S X) (ha : PE X a (tE G W F a')) (hl : PO X lo (tO G W F lo')) (hh : PO X hi (tO G W F hi')) : PE X (.Subscript a (.Slice lo hi none p2) pos) (tE G W F (.sl a' lo' hi')) := r_sl ok.hK ha hl hh
theorem k_cons (ha : PE X a (tE G W F a')) (hr : PA X es (tEs G W F es')) (hs : starEach (a :: es) X.env = (false, eval a X.env) :: starEach es X.env := by rfl) : PA X (a :: es) (tEs G W F (.cons a' es')) := ra_cons ha hr hs
/-! comparisons -/
theorem k_eq (ok : XOk T G W F N S X) (ha : PE X a (tE G W F a')) (hb : PE X b (tE G W F b')) (hm : behindInMarks .Eq b = false := by rfl) : PE X (.Compare a [.Eq] [b] pos) (tE G W F (.cmp .eq a' b')) := r_cmp (op_eqq ok.hK ok.hu) ha hb hm
theorem k_ne (ok : XOk T G W F N S X) (ha : PE X a (tE G W F a')) (hb : PE X b (tE G W F b')) (hm : behindInMarks .NotEq b = false := by rfl) : PE X (.Compare a [.NotEq] [b] pos) (tE G W F (.cmp .ne a' b')) := r_cmp (op_neq ok.hK ok.hu) ha hb hm
theorem k_lt (ok : XOk T G W F N S X) (ha : PE X a (tE G W F a')) (hb : PE X b (tE G W F b')) (hm : behindInMarks .Lt b = false := by rfl) : PE X (.Compare a [.Lt] [b] pos) (tE G W F (.cmp .lt a' b')) := r_cmp op_ltq ha hb hm
theorem k_le (ok : XOk T G W F N S X) (ha : PE X a (tE G W F a')) (hb : PE X b (tE G W F b')) (hm : behindInMarks .LtE b = false := by rfl) : PE X (.Compare a [.LtE] [b] pos) (tE G W F (.cmp .le a' b')) := r_cmp op_leq ha hb hm
theorem k_gt (ok : XOk T G W F N S X) (ha : PE X a (tE G W F a')) (hb : PE X b (tE G W F b')) (hm : behindInMarks .Gt b = false := by rfl) : PE X (.Compare a [.Gt] [b] pos) (tE G W F (.cmp .gt a' b')) := r_cmp op_gtq ha hb hm
theorem k_ge (ok : XOk T G W F N S X) (ha : PE X a (tE G W F a')) (hb : PE X b (tE G W F b')) (hm : behindInMarks .GtE b = false := by rfl) : PE X (.Compare a [.GtE] [b] pos) (tE G W F (.cmp .ge a' b')) := r_cmp op_geq ha hb hm
theorem k_in (ok : XOk T G W F N S X) (ha : PE X a (tE G W F a')) (hb : PE X b (tE G W F b')) (hm : behindInMarks .In b = false := by rfl) : PE X (.Compare a [.In] [b] pos) (tE G W F (.cmp .ein a' b')) := r_cmp (op_inq ok.hK ok.hu) ha hb hm
theorem k_nin (ok : XOk T G W F N S X) (ha : PE X a (tE G W F a')) (hb : PE X b (tE G W F b')) (hm : behindInMarks .NotIn b = false := by rfl) : PE X (.Compare a [.NotIn] [b] pos) (tE G W F (.cmp .nin a' b')) := r_cmp (op_ninq ok.hK ok.hu) ha hb hm
theorem k_isN {j : Nat} (ha : PE X a (tE G W F a')) : PE X (.Compare a [.Is] [.Constant .none j p2] pos) (tE G W F (.cmp .isN a' (.cst .non))) := r_isc op_isNq ha pe_non (fun _ _ => .non) rfl
theorem k_notN {j : Nat} (ha : PE X a (tE G W F a')) : PE X (.Compare a [.IsNot] [.Constant .none j p2] pos) (tE G W F (.cmp .notN a' (.cst .non))) := r_isc op_notNq ha pe_non (fun _ _ => .non) rfl
theorem k_isB {b : Bool} {j : Nat} (ha : PE X a (tE G W F a')) : PE X (.Compare a [.Is] [.Constant (.bool b) j p2] pos) (tE G W F (.cmp (.isB b) a' (.cst (.bl b)))) := r_isc (op_isBq b) ha pe_bl (fun _ _ => .bl b) rfl
theorem k_notB {b : Bool} {j : Nat} (ha : PE X a (tE G W F a')) : PE X (.Compare a [.IsNot] [.Constant (.bool b) j p2] pos) (tE G W F (.cmp (.notB b) a' (.cst (.bl b)))) := r_isc (op_notBq b) ha pe_bl (fun _ _ => .bl b) rfl
/-! tests -/
theorem h_val (ok : XOk T G W F N S X) (ha : PE X a (tE G W F a')) (he : ∀ whole, isTrue a X.env whole = (do let v ← whole; standAt a.pos; holding [v] (truthy v)) := by intro _; rfl) : PT X a (tT G W F a') := rt_val ok.hK ha he
theorem h_eq (ok : XOk T G W F N S X) (ha : PE X a (tE G W F a')) (hb : PE X b (tE G W F b')) (hm : behindInMarks .Eq b = false := by rfl) : PT X (.Compare a [.Eq] [b] pos) (tT G W F (.cmp .eq a' b')) := rt_cmp (op_eqq ok.hK ok.hu) ha hb hm
theorem h_ne (ok : XOk T G W F N S X) (ha : PE X a (tE G W F a')) (hb : PE X b (tE G W F b')) (hm : behindInMarks .NotEq b = false := by rfl) : PT X (.Compare a [.NotEq] [b] pos) (tT G W F (.cmp .ne a' b')) := rt_cmp (op_neq ok.hK ok.hu) ha hb hm
theorem h_lt (ok : XOk T G W F N S X) (ha : PE X a (tE G W F a')) (hb : PE X b (tE G W F b')) (hm : behindInMarks .Lt b = false := by rfl) : PT X (.Compare a [.Lt] [b] pos) (tT G W F (.cmp .lt a' b')) := rt_cmp op_ltq ha hb hm
theorem h_le (ok : XOk T G W F N S X) (ha : PE X a (tE G W F a')) (hb : PE X b (tE G W F b')) (hm : behindInMarks .LtE b = false := by rfl) : PT X (.Compare a [.LtE] [b] pos) (tT G W F (.cmp .le a' b')) := rt_cmp op_leq ha hb hm
theorem h_gt (ok : XOk T G W F N S X) (ha : PE X a (tE G W F a')) (hb : PE X b (tE G W F b')) (hm : behindInMarks .Gt b = false := by rfl) : PT X (.Compare a [.Gt] [b] pos) (tT G W F (.cmp .gt a' b')) := rt_cmp op_gtq ha hb hm
theorem h_ge (ok : XOk T G W F N S X) (ha : PE X a (tE G W F a')) (hb : PE X b (tE G W F b')) (hm : behindInMarks .GtE b = false := by rfl) : PT X (.Compare a [.GtE] [b] pos) (tT G W F (.cmp .ge a' b')) := rt_cmp op_geq ha hb hm
theorem h_in (ok : XOk T G W F N S X) (ha : PE X a (tE G W F a')) (hb : PE X b (tE G W F b')) (hm : behindInMarks .In b = false := by rfl) : PT X (.Compare a [.In] [b] pos) (tT G W F (.cmp .ein a' b')) := rt_cmp (op_inq ok.hK ok.hu) ha hb hm
theorem h_nin (ok : XOk T G W F N S X) (ha : PE X a (tE G W F a')) (hb : PE X b (tE G W F b')) (hm : behindInMarks .NotIn b = false := by rfl) : PT X (.Compare a [.NotIn] [b] pos) (tT G W F (.cmp .nin a' b')) := rt_cmp (op_ninq ok.hK ok.hu) ha hb hm
theorem h_isN {j : Nat} (ha : PE X a (tE G W F a')) : PT X (.Compare a [.Is] [.Constant .none j p2] pos) (tT G W F (.cmp .isN a' (.cst .non))) := rt_isc op_isNq ha pe_non (fun _ _ => .non) rfl
theorem h_notN {j : Nat} (ha : PE X a (tE G W F a')) : PT X (.Compare a [.IsNot] [.Constant .none j p2] pos) (tT G W F (.cmp .notN a' (.cst .non))) := rt_isc op_notNq ha pe_non (fun _ _ => .non) rfl
theorem h_isB {b : Bool} {j : Nat} (ha : PE X a (tE G W F a')) : PT X (.Compare a [.Is] [.Constant (.bool b) j p2] pos) (tT G W F (.cmp (.isB b) a' (.cst (.bl b)))) := rt_isc (op_isBq b) ha pe_bl (fun _ _ => .bl b) rfl
theorem h_notB {b : Bool} {j : Nat} (ha : PE X a (tE G W F a')) : PT X (.Compare a [.IsNot] [.Constant (.bool b) j p2] pos) (tT G W F (.cmp (.notB b) a' (.cst (.bl b)))) := rt_isc (op_notBq b) ha pe_bl (fun _ _ => .bl b) rfl
/-! and, or -/
theorem k_and {rest : List Expr} (ok : XOk T G W F N S X) (ha : PE X a (tE G W F a')) (hb : PE X (.BoolOp .And (b :: rest) pos) (tE G W F b')) : PE X (.BoolOp .And (a :: b :: rest) pos) (tE G W F (.and a' b')) := r_and ok.hK ha hb
theorem k_or {rest : List Expr} (ok : XOk T G W F N S X) (ha : PE X a (tE G W F a')) (hb : PE X (.BoolOp .Or (b :: rest) pos) (tE G W F b')) : PE X (.BoolOp .Or (a :: b :: rest) pos) (tE G W F (.or a' b')) := r_or ok.hK ha hb
theorem k_and1 (ha : PE X a (tE G W F a')) : PE X (.BoolOp .And [a] pos) (tE G W F a') := pe_one ha
theorem k_or1 (ha : PE X a (tE G W F a')) : PE X (.BoolOp .Or [a] pos) (tE G W F a') := pe_one ha
theorem k_not (ok : XOk T G W F N S X) (ha : PE X a (tE G W F a')) : PE X (.UnaryOp .Not a pos) (tE G W F (.not a')) := r_not ok.hK ha
theorem h_and1 (ha : PT X a (tT G W F a')) : PW X (.BoolOp .And [a] pos) (tT G W F a') := pw_and1 ha
theorem h_or1 (ha : PT X a (tT G W F a')) : PW X (.BoolOp .Or [a] pos) (tT G W F a') := pw_or1 ha
/-! calls -/
theorem k_call {x : Str} (k : Nat) (dfl : List D) (j : Nat) (ok : XOk T G W F N S X) (ha : PA X (e :: es) (tEs G W F es')) (hd : T.defs.lookup x = some (k, dfl) := by kernel_rfl) (hg : glC S x = true := by kernel_rfl) (he : starEach (e :: es) X.env = (false, eval e X.env) :: starEach es X.env := by rfl) (hpl : (backTo pos (starEach es X.env)).any (·.1) = false := by rfl) :
    PE X (.Call (.Name x p) (e :: es) [] pos) (tE G W F (.call k es' (dfl.drop j))) := by
  obtain ⟨h1, h2⟩ := ok.fnc x k dfl hd
  obtain ⟨g1, g2, g3⟩ := gl_of ok hg
  exact r_call j h2 ok.tk g1 h1 ha g2 he hpl
theorem k_call0 {x : Str} (k : Nat) (dfl : List D) (j : Nat) (ok : XOk T G W F N S X) (hd : T.defs.lookup x = some (k, dfl) := by kernel_rfl) (hg : glC S x = true := by kernel_rfl) :
    PE X (.Call (.Name x p) [] [] pos) (tE G W F (.call k .nil (dfl.drop j))) := by
  obtain ⟨h1, h2⟩ := ok.fnc x k dfl hd
  obtain ⟨g1, g2, g3⟩ := gl_of ok hg
  exact r_call0 j h2 ok.tk g1 h1 g2
theorem k_blt {x : Str} {id : String} {f : Bif} (ho : CallR X (.builtin id) (rL G (bfn f))) (ok : XOk T G W F N S X) (hv : bootBuiltins x = some (.builtin id)) (ha : PA X (e :: es) (tEs G W F es'))
    (hf : T.free.contains x = true := by kernel_rfl) (hg : glC S x = true := by kernel_rfl) (he : starEach (e :: es) X.env = (false, eval e X.env) :: starEach es X.env := by rfl) (hpl : (backTo pos (starEach es X.env)).any (·.1) = false := by rfl) : PE X (.Call (.Name x p) (e :: es) [] pos) (tE G W F (.bfn f es')) := by
  obtain ⟨g1, g2, g3⟩ := gl_of ok hg
  exact r_callB ho g1 (ok.free x hf) hv ha g3 g2 he hpl
theorem k_bty {x : Str} {id : String} {f : Bif} (ho : CallR X (.type id) (rL G (bfn f))) (ok : XOk T G W F N S X) (hv : bootBuiltins x = some (.type id)) (ha : PA X (e :: es) (tEs G W F es'))
    (hf : T.free.contains x = true := by kernel_rfl) (hg : glC S x = true := by kernel_rfl) (he : starEach (e :: es) X.env = (false, eval e X.env) :: starEach es X.env := by rfl) (hpl : (backTo pos (starEach es X.env)).any (·.1) = false := by rfl) : PE X (.Call (.Name x p) (e :: es) [] pos) (tE G W F (.bfn f es')) := by
  obtain ⟨g1, g2, g3⟩ := gl_of ok hg
  exact r_callTy ho g1 (ok.free x hf) hv ha g3 g2 he hpl
end
end Mp

set_option Elab.async false
set_option linter.all false
set_option maxRecDepth 100000
set_option maxHeartbeats 1000000
/-! C11: the rest of the printed terms' rules; a def by its body. -/
namespace Mp
open PySem PySem.Spec PyProof.Rows L2
section
variable {N : List Str} {S : Scope} {T : TD} {G : Gm} {W : WX} {F : Fns} {X : Cx} {e a b c o f : Expr} {e' a' b' c' o' f' : Ex} {es : List Expr} {es' : Exs} {pos pos' p p2 apos kpos spos lpos py tpos : Pos} {tg iter : Expr} {tg' : Tg} {i' : Mp.Iw} {ifs : List Expr} {cs' : Exs} {sc : Scope} {elts : List Expr} {kk : Nat}
/-! max of a list with a default -/
theorem call_maxd (hc : X.calm = true) (hu : X.A.units + 65 < cLine) {pins : List (Addr × Obj)} {s : Shared} {σ : L2.St} {H : Hp} {al : Addr} {ns : List Int} {d : Int} {u v : Value} {Q : VK} (I : Inv X pins σ H s) (r : RelV (.ref al) u) (rd : RelV (.int d) v) (hs : SqL X.K H al (ns.map V.int)) (hq : Q (.int (mxd d ns)) H) :
    wpAny (model X.prog X.w) X.A (call (.builtin "max") [u] [(Str.ofString "default", v)]) (EP X pins σ Q) X.xe s := by
  cases r
  obtain ⟨t, rfl⟩ := rd
  obtain ⟨its, rv, hl, _⟩ := I.list hs
  have hi := rv.ints
  refine PySem.W.max_list_default (xs := ns.map .int) (as := []) (I.ok.hd hc) hl.isList ?_ ⟨?_, ?_⟩ (by rw [PySem.W.depth_ints]; omega) (fun e h' tk hk => ?_) fun y ys i v h' tk bs e hv rd hk => ?_
  · exact hi.reads _
  · intro x hx y hy
    obtain ⟨i, _, rfl⟩ := List.mem_map.mp hx
    obtain ⟨j, _, rfl⟩ := List.mem_map.mp hy
    simp [PySem.W.alike]
  · intro x hx
    obtain ⟨i, _, rfl⟩ := List.mem_map.mp hx
    exact fun z => nomatch z
  · cases ns with
    | nil => exact ⟨.int _, H, I.kept hk, ⟨_, rfl⟩, hq⟩
    | cons n r => cases e
  · cases ns with
    | nil => cases e
    | cons n r =>
      cases e
      rw [PySem.W.maxD_ints] at rd
      cases rd
      exact ⟨.int _, H, I.kept hk, ⟨_, rfl⟩, hq⟩
theorem k_maxd {x : Str} (ok : XOk T G W F N S X) (hx : x = "max") (ha : PE X a (tE G W F a')) (hb : PE X b (tE G W F b')) (hf : T.free.contains x = true := by kernel_rfl) (hg : glC S x = true := by kernel_rfl) (hs : starEach [a] X.env = [(false, eval a X.env)] := by rfl) :
    PE X (.Call (.Name x p) [a] [⟨some "default", b, kpos⟩] pos) (tE G W F (.bfn .maxd (.cons a' (.cons b' .nil)))) := by
  subst hx
  obtain ⟨g1, g2, g3⟩ := gl_of ok hg
  refine ⟨fun pins s σ H Q I ⟨m, ρ, h, hr, er, hp⟩ => ?_⟩
  refine wpAny_Call_Name_kw (ld_blt I g1 (ok.free _ hf) (u := .builtin "max") rfl ?_ g3 g2)
  have hp' : post G W σ m H Q ((evE F a' ρ h).bind fun x h => (evE F b' ρ h).bind fun y h => bfn .maxd [x, y] h) := by
    have e0 : evE F (.bfn .maxd (.cons a' (.cons b' .nil))) ρ h = (evE F a' ρ h).bind fun x h => (evE F b' ρ h).bind fun y h => bfn .maxd [x, y] h := by
      show ((evE F a' ρ h).bind fun x h => ((evE F b' ρ h).bind fun y h => (Res.ok [] h).bind fun ys h => .ok (y :: ys) h).bind fun xs h => .ok (x :: xs) h).bind _ = _
      cases evE F a' ρ h with
      | ok d h1 =>
        dsimp only [Res.bind]
        cases evE F b' ρ h1 <;> rfl
      | exc c h1 => rfl
      | stk => rfl
    rw [e0] at hp
    exact hp
  refine PyProof.Rows.callWith_kw (thn ((pa_cons ha pa_nil (by rw [hs]; rfl)).run pos pins s σ H (fun vs H1 => ∃ m1 d1 h1 v, vs = [v] ∧ Ext G.K m H m1 H1 ∧ HR G m1 h1 H1 ∧ VD G m1 H1 v d1 ∧ post G W σ m1 H1 Q ((evE F b' ρ h1).bind fun y h => bfn .maxd [d1, y] h)) I
    ⟨m, ρ, h, hr, er, post_imp (post_bind hp') fun v H1 ⟨m1, d1, h1, e1, hr1, vd1, hp1⟩ => ⟨m1, d1, h1, v, rfl, e1, hr1, vd1, hp1⟩⟩) fun us s1 ⟨vs, H1, I1, r1, m1, d1, h1, v, ev, e1, hr1, vd1, hp1⟩ => ?_) (by rw [hs]; rfl) (by rw [hs]; rfl) rfl rfl
  subst ev
  cases r1 with
  | cons ru rn =>
    cases rn
    refine PyProof.Rows.kws_cons (thn (hb.run pins s1 σ H1 _ I1 ⟨m1, ρ, h1, hr1, er.mono e1, post_bind hp1⟩) fun w s2 ⟨y, H2, I2, ry, m2, d2, h2, e2, hr2, vd2, hp2⟩ => PyProof.Rows.kws_nil ?_)
    have vd1 := vd1.mono e2
    cases d2 with
    | int d =>
      have hp3 : post G W σ m2 H2 Q (match lstOf h2 d1 with
        | some ds => (match intsD ds with
          | some is => .ok (.int (mxd d is)) h2
          | none => .stk)
        | none => .stk) := hp2
      cases vd2
      split at hp3
      · rename_i ds hds
        split at hp3
        · rename_i is his
          obtain ⟨pp, vs, rfl, hsq, hvs⟩ := lst_of hr2 vd1 hds
          have := ints_of hvs his
          subst this
          exact call_maxd ok.calm ok.hu I2 ru ry (ok.hK ▸ hsq) (hp3 m2 _ H2 .refl hr2 (.int _))
        · exact hp3.elim
      · exact hp3.elim
    | _ => exact hp2.elim
theorem k_isi {x y : Str} (t : Ty) (ok : XOk T G W F N S X) (hx : x = "isinstance") (hy : y = tyName t) (ha : PE X e (tE G W F e')) (hf : T.free.contains x = true := by kernel_rfl) (hg : glC S x = true := by kernel_rfl) (hf2 : T.free.contains y = true := by kernel_rfl) (hg2 : glC S y = true := by kernel_rfl)
    (he : starEach [e, .Name y p2] X.env = [(false, eval e X.env), (false, eval (.Name y p2) X.env)] := by rfl) :
    PE X (.Call (.Name x p) [e, .Name y p2] [] pos) (tE G W F (.bfn (.isi t) (.cons e' .nil))) := by
  subst hx
  subst hy
  obtain ⟨g1, g2, g3⟩ := gl_of ok hg
  obtain ⟨k1, k2, k3⟩ := gl_of ok hg2
  exact r_isi ok.hK g1 (ok.free _ hf) rfl ha (pe_bltn k1 (ok.free _ hf2) (by cases t <;> rfl) rfl k3 k2) g3 g2 he
theorem k_met {f : Mid} {mn : Str} (hm : mn = mname f) (ok : XOk T G W F N S X) (ho : PE X o (tE G W F o')) (ha : PA X (e :: es) (tEs G W F es'))
    (hbase : attributeBase o mn X.env (eval o X.env) = eval o X.env := by rfl)
    (hfew : ((backTo pos (starEach (e :: es) X.env)).all (fun x => !x.1) && (backToKw pos (keywordEach [] X.env)).all (fun x => x.1.isSome)
      && decide ((e :: es).length + ([] : List Keyword).length + (if ([] : List Keyword).isEmpty then 0 else 1) < 30)) = true := by rfl)
    (hline : (apos.endLine == pos.line) = true := by rfl) (hst : starEach (e :: es) X.env = (false, eval e X.env) :: starEach es X.env := by rfl) (hplain : (backTo pos (starEach es X.env)).any (·.1) = false := by rfl) :
    PE X (.Call (.Attribute o mn apos) (e :: es) [] pos) (tE G W F (.met f o' es')) := by
  subst hm
  exact r_met ok.hK ok.hu ho ha hbase hfew hline hst hplain
theorem k_met0 {f : Mid} {mn : Str} (hm : mn = mname f) (ok : XOk T G W F N S X) (ho : PE X o (tE G W F o'))
    (hbase : attributeBase o mn X.env (eval o X.env) = eval o X.env := by rfl) (hline : (apos.endLine == pos.line) = true := by rfl) :
    PE X (.Call (.Attribute o mn apos) [] [] pos) (tE G W F (.met f o' .nil)) := by
  subst hm
  exact r_met0 ok.hK ok.hu ho hbase hline
/-! targets, walks -/
theorem st_of {x : Str} {i : Nat} (ok : XOk T G W F N S X) (h : stC N S i x = true) : X.N[i]? = some x ∧ X.env.scope.names.lookup x = some .local := by
  rw [ok.hN, ok.hs]
  exact stC_ok h
theorem g_name (i : Nat) {x : Str} (ok : XOk T G W F N S X) (h : stC N S i x = true := by kernel_rfl) : PG X (.Name x pos) (tG G F (.name i)) := rg_name ok.nd (st_of ok h).1 (.inl (st_of ok h).2) (.inr (st_of ok h).2)
/-- in a block, a name may be a cell -/
def cellC (N : List Str) (sc : Scope) (i : Nat) (x : Str) : Bool := decide (N[i]? = some x) && (match sc.names.lookup x with | some .cell => true | _ => false)
theorem cellC_ok {N : List Str} {sc : Scope} {i : Nat} {x : Str} (h : cellC N sc i x = true) : N[i]? = some x ∧ sc.names.lookup x = some .cell := by
  unfold cellC at h
  simp only [Bool.and_eq_true, decide_eq_true_eq] at h
  refine ⟨h.1, ?_⟩
  have q := h.2
  split at q
  · rename_i e; exact e
  · cases q
theorem cell_of {x : Str} {i : Nat} (ok : XOk T G W F N S X) (h : cellC N S i x = true) : X.N[i]? = some x ∧ X.env.scope.names.lookup x = some .cell := by
  rw [ok.hN, ok.hs]
  exact cellC_ok h
theorem g_cell (i : Nat) {x : Str} (ok : XOk T G W F N S X) (hf : X.fn x = true) (h : cellC N S i x = true := by kernel_rfl) : PG X (.Name x pos) (tG G F (.name i)) := rg_name ok.nd (cell_of ok h).1 (.inr (cell_of ok h).2) (.inl hf)
theorem evTs_len : ∀ (ts : Tgs) (n : Nat), (match ts with | .nil => true | _ => true) = true → True := fun _ _ _ => trivial
def tgsN : Tgs → Nat
  | .nil => 0
  | .cons _ r => tgsN r + 1
theorem evTs_short : ∀ (ts : Tgs) (ds : List D) (ρ : Env) (h : PH), ds.length ≠ tgsN ts → ∀ ρ' h', evTs F ts ds ρ h ≠ .ok ρ' h'
  | .nil, [], ρ, h, n, ρ', h' => absurd rfl n
  | .nil, d :: ds, ρ, h, n, ρ', h' => fun e => nomatch e
  | .cons t ts, [], ρ, h, n, ρ', h' => fun e => nomatch e
  | .cons t ts, d :: ds, ρ, h, n, ρ', h' => by
    intro e
    have e2 : ((evT F t d ρ h).bind fun ρ h => evTs F ts ds ρ h) = .ok ρ' h' := e
    cases q : evT F t d ρ h with
    | stk => rw [q] at e2; cases e2
    | exc c h => rw [q] at e2; cases e2
    | ok ρ1 h1 =>
      rw [q] at e2
      exact evTs_short ts ds ρ1 h1 (by simpa [tgsN] using n) ρ' h' e2
theorem g_tup {tgs : List Expr} {tgs' : Tgs} {k : Nat} (ok : XOk T G W F N S X) (ha : PGs X tgs (tGs G F tgs')) (hn : tgsN tgs' = tgs.length := by rfl) (hl : (assignEach tgs X.env).length = tgs.length := by rfl) (hst : (assignEach tgs X.env).findIdx? (·.1) = none := by rfl) :
    PG X (.Tuple tgs k pos) (tG G F (.tup tgs')) := rg_tup ok.calm ok.hK ha (fun ds ρ h n => evTs_short tgs' ds ρ h (by rw [hn]; exact n)) hl hst
theorem gs_cons {tg : Expr} {tgs : List Expr} {tg' : Tg} {tgs' : Tgs} (h1 : PG X tg (tG G F tg')) (h2 : PGs X tgs (tGs G F tgs')) (hs : (assignEach (tg :: tgs) X.env).map (·.2) = assign tg X.env :: (assignEach tgs X.env).map (·.2) := by rfl) : PGs X (tg :: tgs) (tGs G F (.cons tg' tgs')) := rgs_cons h1 h2 hs
theorem i_seq {l : Expr} {l' : Ex} (ok : XOk T G W F N S X) (hl : PE X l (tE G W F l')) : PI X tg l (tI G W F (.seq l')) := ri_seq ok.hK hl
theorem i_rng1 (ok : XOk T G W F N S X) (he : PE X e (tE G W F e')) (hf : T.free.contains "range" = true := by kernel_rfl) (hg : glC S "range" = true := by kernel_rfl) (hs : starEach [e] X.env = [(false, eval e X.env)] := by rfl) : PI X tg (.Call (.Name "range" p) [e] [] pos) (tI G W F (.rng1 e')) := ri_rng1 (gl_of ok hg).1 (ok.free _ hf) he hs
theorem i_rng2 (ok : XOk T G W F N S X) (he : PE X e (tE G W F e')) (hff : PE X f (tE G W F f')) (hf : T.free.contains "range" = true := by kernel_rfl) (hg : glC S "range" = true := by kernel_rfl) (hs : starEach [e, f] X.env = [(false, eval e X.env), (false, eval f X.env)] := by rfl) (hs2 : starEach [f] X.env = [(false, eval f X.env)] := by rfl) :
    PI X tg (.Call (.Name "range" p) [e, f] [] pos) (tI G W F (.rng2 e' f')) := ri_rng2 (gl_of ok hg).1 (ok.free _ hf) he hff hs hs2
theorem i_enum (ok : XOk T G W F N S X) (he : PE X e (tE G W F e')) (hf : T.free.contains "enumerate" = true := by kernel_rfl) (hg : glC S "enumerate" = true := by kernel_rfl) (hs : starEach [e] X.env = [(false, eval e X.env)] := by rfl) : PI X (.Tuple elts kk tpos) (.Call (.Name "enumerate" p) [e] [] pos) (tI G W F (.enum e')) := ri_enum ok.hK (gl_of ok hg).1 (ok.free _ hf) he hs
theorem i_zip (ok : XOk T G W F N S X) (he : PE X e (tE G W F e')) (hff : PE X f (tE G W F f')) (hf : T.free.contains "zip" = true := by kernel_rfl) (hg : glC S "zip" = true := by kernel_rfl) (hs : starEach [e, f] X.env = [(false, eval e X.env), (false, eval f X.env)] := by rfl) (hs2 : starEach [f] X.env = [(false, eval f X.env)] := by rfl) :
    PI X (.Tuple elts kk tpos) (.Call (.Name "zip" p) [e, f] [] pos) (tI G W F (.zip e' f')) := ri_zip ok.hK (gl_of ok hg).1 (ok.free _ hf) he hff hs hs2
/-! comprehensions -/
theorem k_lc (own : List (Str × Nat)) (ok : XOk T G W F N S X) (hi : PI X tg iter (tI G W F i'))
    (hg : ∀ X2 : Cx, XOk T G W0 F N (relS sc S) X2 → (∀ x, sc.names.lookup x = some .cell → X2.fn x = true) → PG X2 tg (tG G F tg'))
    (ht : ∀ X2 : Cx, XOk T G W0 F N (relS sc S) X2 → PTs X2 ifs (tC' G F cs'))
    (he : ∀ X2 : Cx, XOk T G W0 F N (relS sc S) X2 → PE X2 e (tE G W0 F e')) (hb : blkC N S sc own = true := by kernel_rfl)
    (hw : (tgS tg').all (fun i => (own.map (·.2)).contains i) = true := by kernel_rfl) (hk : sc.kind = .function := by rfl) (hs : ∀ x, foldedSetIterable iter X.env x = pure x := by intro _; rfl) :
    PE X (.ListComp e [⟨tg, iter, ifs, 0⟩] sc pos) (tE G W F (.lc e' tg' i' cs' (own.map (·.2)))) := by
  have bo : BlkOk X.N X.env.scope sc own := by rw [ok.hN, ok.hs]; exact blkOk_by hb
  exact (pe_lc ok.calm ok.nd hi bo (fun s H C cl fp => hg _ (ok.blk hk) fun x hx => by show (sc.names.lookup x == some .cell) = true; rw [hx]; rfl) (fun s H C cl fp => ht _ (ok.blk hk)) (fun s H C cl fp => he _ (ok.blk hk)) hs).weaken
    (r_lc ok.calm ok.nd hi bo (fun s H C cl fp => hg _ (ok.blk hk) fun x hx => by show (sc.names.lookup x == some .cell) = true; rw [hx]; rfl) (fun s H C cl fp => ht _ (ok.blk hk)) (fun s H C cl fp => he _ (ok.blk hk)) hs
      (fun i hi => by simpa using List.all_eq_true.mp hw i hi))
theorem s_setLc {y : Str} (i : Nat) (own : List (Str × Nat)) (ok : XOk T G W F N S X) (hi : PI X tg iter (tI G W F i'))
    (hg : ∀ X2 : Cx, XOk T G W0 F N (relS sc S) X2 → (∀ x, sc.names.lookup x = some .cell → X2.fn x = true) → PG X2 tg (tG G F tg'))
    (ht : ∀ X2 : Cx, XOk T G W0 F N (relS sc S) X2 → PTs X2 ifs (tC' G F cs'))
    (he : ∀ X2 : Cx, XOk T G W0 F N (relS sc S) X2 → PE X2 e (tE G W0 F e')) (hy : stC N S i y = true := by kernel_rfl) (hb : blkC N S sc own = true := by kernel_rfl)
    (hw : (tgS tg').all (fun i => (own.map (·.2)).contains i) = true := by kernel_rfl) (hsw : (sc.names.any fun (n, k) => n == y && (k == .local || k == .cell)) = false := by kernel_rfl) (hl : (py.line == pos.line) = true := by rfl) (hk : sc.kind = .function := by rfl) (hs : ∀ x, foldedSetIterable iter X.env x = pure x := by intro _; rfl) :
    PS X (.Assign [.Name y py] (.ListComp e [⟨tg, iter, ifs, 0⟩] sc pos) spos) (tS G W F (.asg (.name i) (.lc e' tg' i' cs' (own.map (·.2))))) := by
  have bo : BlkOk X.N X.env.scope sc own := by rw [ok.hN, ok.hs]; exact blkOk_by hb
  obtain ⟨y1, y2⟩ := st_of ok hy
  exact rs_setT (ps_setLc ok.calm ok.nd y1 y2 (sw_true ok.kd y2 hl hsw) hi bo (fun s H C cl fp => hg _ (ok.blk hk) fun x hx => by show (sc.names.lookup x == some .cell) = true; rw [hx]; rfl) (fun s H C cl fp => ht _ (ok.blk hk)) (fun s H C cl fp => he _ (ok.blk hk)) hs)
    (r_lc ok.calm ok.nd hi bo (fun s H C cl fp => hg _ (ok.blk hk) fun x hx => by show (sc.names.lookup x == some .cell) = true; rw [hx]; rfl) (fun s H C cl fp => ht _ (ok.blk hk)) (fun s H C cl fp => he _ (ok.blk hk)) hs
      (fun i hi => by simpa using List.all_eq_true.mp hw i hi))
/-! statements -/
theorem s_set {y : Str} (i : Nat) (ok : XOk T G W F N S X) (he : PE X e (tE G W F e')) (hy : stC N S i y = true := by kernel_rfl) (hs : swapsWith e (some (.Name y py)) spos.line X.env = pure false := by rfl) : PS X (.Assign [.Name y py] e spos) (tS G W F (.asg (.name i) e')) :=
  rs_set ok.nd (st_of ok hy).1 (.inl (st_of ok hy).2) he hs (.inr (st_of ok hy).2)
theorem s_setC {y : Str} (i : Nat) (ok : XOk T G W F N S X) (hf : X.fn y = true) (he : PE X e (tE G W F e')) (hy : cellC N S i y = true := by kernel_rfl) (hs : swapsWith e (some (.Name y py)) spos.line X.env = pure false := by rfl) : PS X (.Assign [.Name y py] e spos) (tS G W F (.asg (.name i) e')) :=
  rs_set ok.nd (cell_of ok hy).1 (.inr (cell_of ok hy).2) he hs (.inl hf)
theorem s_asg (he : PE X e (tE G W F e')) (hg : PG X tg (tG G F tg')) (hs : swapsWithSole [tg] e spos.line X.env = pure false := by rfl) (hw : swappedStores [tg] e X.env = pure none := by rfl)
    (h1 : (assignEach [tg] X.env).map (·.2) = [assign tg X.env] := by rfl) : PS X (.Assign [tg] e spos) (tS G W F (.asg tg' e')) := rs_asg he hg hs hw h1
theorem s_aug {y : Str} (i : Nat) {bo : Bop} {op : Operator} (ok : XOk T G W F N S X) (hop : match bo with | .add => op = .Add | .sub => op = .Sub | _ => False) (he : PE X e (tE G W F e')) (hy : stC N S i y = true := by kernel_rfl) : PS X (.AugAssign (.Name y pos') op e pos) (tS G W F (.aug i bo e')) :=
  rs_aug hop ok.nd (st_of ok hy).1 (.inl (st_of ok hy).2) he (.inr (st_of ok hy).2)
theorem s_ex (he : PE X e (tE G W F e')) (hs : swapsWith e none pos.line X.env = pure false := by rfl) : PS X (.Expr e pos) (tS G W F (.ex e')) := rs_ex he hs
theorem s_for {body : List Stmt} {body' : Ss} (pa : PassesOwn (model X.prog X.w) X.A X.env X.xe) (ok : XOk T G W F N S X) (hi : PI X tg iter (tI G W F i')) (hg : PG X tg (tG G F tg')) (hb : PSs X body (tSs G W F body')) (hs : ∀ x, foldedSetIterable iter X.env x = pure x := by intro _; rfl) :
    PS X (.For tg iter body [] pos) (tS G W F (.for_ tg' i' body')) := rs_for pa ok.calm hi hg hb hs
end
end Mp

set_option Elab.async false
set_option linter.all false
set_option maxRecDepth 100000
set_option maxHeartbeats 1000000
/-! C12: all defs of a text keep what the interpreter says; a law by its interpreter. -/
namespace Mp
open PySem PySem.Spec PyProof.Rows L2
/-- a def with its slots, its parameters and its body in the interpreter's words -/
structure Df where
  x : Str
  qual : Str
  params : Arguments
  body : List Stmt
  scope : Scope
  N : List Str
  ps : List Str
  b : Ss
def Df.fd (d : Df) : Fd := ⟨d.ps.length, d.N.length, d.b⟩
theorem starts {G : Gm} {m : List Addr} {H : Hp} {N : List Str} {vs : List V} {ds : List D} (h : VDs G m H vs ds) : ER G m H (L2.start N vs) (startE N.length ds) := by
  unfold L2.start startE
  refine ⟨by simp [h.len], fun i d q => ?_⟩
  by_cases hi : i < ds.length
  · rw [List.getElem?_append_left (by simpa using hi), List.getElem?_map] at q
    cases e : ds[i]? with
    | none => rw [e] at q; cases q
    | some z =>
      rw [e] at q
      cases q
      obtain ⟨v, h1, h2⟩ := h.get e
      refine ⟨v, ?_, h2⟩
      rw [List.getElem?_append_left (by rw [List.length_map, h.len]; exact hi), List.getElem?_map, h1]
      rfl
  · rw [List.getElem?_append_right (by simpa using hi), List.getElem?_replicate] at q
    split at q <;> cases q
/-- what a text's defs are: what stands in K -/
structure TxtOk (K : PySem.W.Frag) (mg : Str → Option Value) (G : Gm) (T : TD) (dfs : List Df) : Prop where
  hK : G.K = K
  fds : ∀ (k : Nat) (d : Df), dfs[k]? = some d → ∃ fd, FunD K d.x d.qual d.params d.body d.scope [] [] (G.fa k) fd ∧ Binds K fd d.ps []
  nms : ∀ x k dfl, T.defs.lookup x = some (k, dfl) → mg x = some (.ref (G.fa k)) ∧ dfl = [] ∧ k < dfs.length
  free : ∀ x, T.free.contains x = true → mg x = none
/-- what the text says of itself -/
structure DfsOk (T : TD) (dfs : List Df) : Prop where
  sc : ∀ (k : Nat) (d : Df), dfs[k]? = some d → FnScope d.N d.ps d.scope
  bd : ∀ (k : Nat) (d : Df), dfs[k]? = some d → ∀ (G : Gm) (W : WX) (F : Fns) (X : Cx), XOk T G W F d.N d.scope X → PassesOwn (model X.prog X.w) X.A X.env X.xe → (∀ x, X.fn x = true) → PSs X d.body (tSs G W F d.b)
theorem txt_ok {P : Program} {w : World} {K : PySem.W.Frag} {mg : Str → Option Value} {base : Heap} {G : Gm} {T : TD} {dfs : List Df} {Tb : Tb} (ht : TxtOk K mg G T dfs) (hd : DfsOk T dfs) (hb : Tb.fds = dfs.map Df.fd) :
    ∀ (n k : Nat) (d : Df), dfs[k]? = some d → ∃ fd, FnOk P w K mg base (L2N.CX P w) (2 * n) (G.fa k) fd d.ps (spF G (Tb.fns n) k) ∧ FunD K d.x d.qual d.params d.body d.scope [] [] (G.fa k) fd ∧ Binds K fd d.ps []
  | 0, k, d, hk => by
    obtain ⟨fd, h1, h2⟩ := ht.fds k d hk
    exact ⟨fd, ⟨fun vs H Q E ⟨m, args, h, _, _, z⟩ => z.elim, fun A outer s H args us vs Q E _ _ _ _ ⟨m, args, h, _, _, z⟩ => z.elim⟩, h1, h2⟩
  | n + 1, k, d, hk => by
    have ih := txt_ok (P := P) (w := w) (base := base) (Tb := Tb) ht hd hb n
    obtain ⟨fd, h1, h2⟩ := ht.fds k d hk
    have hfd : Tb.fds[k]? = some d.fd := by rw [hb, List.getElem?_map, hk]; rfl
    have hcall : ∀ args h, (Tb.fns (n + 1)).call k args h = if args.length = d.ps.length then (evSs (Tb.fns n) d.b (startE d.N.length args) h).fin else .stk := by
      intro args h
      show (match Tb.fds[k]? with
        | some fd => if args.length = fd.np then (evSs (Tb.fns n) fd.body (startE fd.nl args) h).fin else .stk
        | none => .stk) = _
      rw [hfd]
      rfl
    refine ⟨fd, h1.ok (k := 2 * n + 1) (hd.sc k d hk) (fun vs H Q E ⟨m, args, h, hr, hv, z⟩ => ?_) (fun cdv A outer s H vs Q E hroom ⟨m, args, h, hr, hv, z⟩ => ?_), h1, h2⟩
    · rw [hcall] at z
      by_cases hl : args.length = d.ps.length
      · rw [hv.len, hl]
      · rw [if_neg hl] at z; exact z.elim
    · rw [hcall] at z
      by_cases hl : args.length = d.ps.length
      · rw [if_pos hl] at z
        let X : Cx := cxOf (L2N.CX P w) P w K mg base d.N d.qual d.scope (G.fa k) cdv A outer s H E
        have tk : L2N.Takes X (fun cls dd _ H => E cls dd H) := L2N.takes_of (X := X) rfl rfl rfl rfl
        have pa : PassesOwn (model X.prog X.w) X.A X.env X.xe := L2.passes_of (X := X) rfl
        have ok : XOk T G (fun cls dd _ H => E cls dd H) (Tb.fns n) d.N d.scope X := by
          refine ⟨rfl, rfl, ht.hK.symm, ?_, rfl, (hd.sc k d hk).nd, tk, (hd.sc k d hk).kind, fun x j dfl hx => ?_, ht.free⟩
          · have := hroom.un
            show (A.deeper _).units + 65 < cLine
            omega
          · obtain ⟨g1, g2, g3⟩ := ht.nms x j dfl hx
            subst g2
            refine ⟨g1, ?_⟩
            obtain ⟨fd2, q1, q2, q3⟩ := ih j dfs[j] (List.getElem?_eq_getElem g3)
            exact ⟨⟨2 * n, fd2, _, q1, hroom, q2.kp, fun jj => ⟨[], [], .nil, q3, fun m H => by rw [List.drop_nil]; exact .nil⟩⟩⟩
        refine ⟨_, hd.bd k d hk G _ (Tb.fns n) X ok pa fun _ => rfl, m, startE d.N.length args, h, hr, starts hv, ?_⟩
        cases q : evSs (Tb.fns n) d.b (startE d.N.length args) h with
        | nx ρ h' => rw [q] at z; exact fun m' σ' H' e hr' er' => z m' .non H' e hr' .non
        | rt dd h' => rw [q] at z; exact z
        | bk ρ h' => rw [q] at z; exact z.elim
        | ct ρ h' => rw [q] at z; exact z.elim
        | ex c ρ h' => rw [q] at z; exact fun m' σ' H' e hr' er' => z m' H' e hr'
        | stk => rw [q] at z; exact z.elim
      · rw [if_neg hl] at z; exact z.elim
/-- the law's promise, by the interpreter's answer -/
theorem law_sp {G : Gm} {Fn : Fns} {k : Nat} {H : Hp} {a : Addr} {ns : List Int} (ho : Only H) (hs : SqL G.K H a (ns.map V.int)) {h' : PH} (hc : Fn.call k [.scr (ns.map D.int)] [] = .ok (.bl true) h') :
    spF G Fn k [.ref a] H (fun v _ => v = .bl true) fun _ _ _ => False := by
  have hf : SqF G.K H a (ns.map V.int) := by
    rcases hs with q | q
    · rcases q with z | z
      · rcases ho a with y | ⟨o, xs, y⟩
        · rw [y] at z; cases z
        · rw [y] at z; cases z
      · exact .inl z
    · exact .inr q
  have hv : ∀ ns : List Int, VDs G [] H (ns.map V.int) (ns.map D.int) := fun ns => by
    induction ns with
    | nil => exact .nil
    | cons n r ih => exact .cons (.int n) ih
  refine ⟨[], [.scr (ns.map D.int)], [], ⟨rfl, List.nodup_nil, fun l a o e _ => by simp at e⟩, .cons (.scr hf (hv ns)) .nil, ?_⟩
  rw [hc]
  intro m' v H' _ _ vd
  cases vd
  rfl
end Mp

set_option Elab.async false
set_option linter.all false
set_option maxRecDepth 100000
set_option maxHeartbeats 1000000
/-! C13: the head's facts are the text's; the end of a law. -/
namespace Mp
open PySem PySem.Spec PyProof.Rows L2
def faOf (T : TD) : List He.Fa := T.defs.map (fun e => .glo e.1) ++ T.free.map .free
def dOf (d : Df) : He.DefD := ⟨(d.x, none), d.x, d.qual, d.params, d.body, d.scope, [], []⟩
def tdC (T : TD) (dfs : List Df) : Bool := T.defs.all fun e => match dfs[e.2.1]? with
  | some d => decide (d.x = e.1) && e.2.2.isEmpty
  | none => false
def gmOf (K : PySem.W.Frag) (dfs : List Df) : Gm := ⟨K, fun k => match dfs[k]? with
  | some d => He.fAd K (d.x, none)
  | none => 0, fun _ => 0, fun _ => .none⟩
theorem lookup_mem {α : Type} {x : Str} {v : α} : ∀ {l : List (Str × α)}, l.lookup x = some v → (x, v) ∈ l
  | [], h => by simp at h
  | (y, u) :: r, h => by
    rw [List.lookup_cons] at h
    split at h
    · rename_i e
      cases h
      rw [beq_iff_eq.mp e]
      exact List.mem_cons_self
    · exact List.mem_cons_of_mem _ (lookup_mem h)
/-- a def is called by its parameters' places -/
def BindOk (d : Df) : Prop := ∀ (kV doc pm : Value) (an : Option Addr) (cdv ct : Value) (us : List Value), us.length = d.ps.length → bindArgs (PySem.W.fnOf d.x d.qual d.params d.body d.scope .none kV doc pm an cdv ct) ⟨us, []⟩ = pure (d.ps.zip us)
theorem txt_of {K : PySem.W.Frag} {T : TD} {dfs : List Df} {h : Heap} {mg : Str → Option Value} (c : He.SaysD (faOf T) (dfs.map dOf) K) (X : K.In h) (G : h.Ns mainGlobals mg) (ht : tdC T dfs = true) (hb : ∀ d ∈ dfs, BindOk d) : TxtOk K mg (gmOf K dfs) T dfs where
  hK := rfl
  fds := fun k d hk => by
    have e : (dfs.map dOf)[k]? = some (dOf d) := by rw [List.getElem?_map, hk]; rfl
    obtain ⟨fd, F⟩ := c.def_ k e
    have ea : (gmOf K dfs).fa k = He.fAd K (d.x, none) := by
      show (match dfs[k]? with | some d => He.fAd K (d.x, none) | none => 0) = _
      rw [hk]
    have F' : FunD K d.x d.qual d.params d.body d.scope [] [] ((gmOf K dfs).fa k) fd := by rw [ea]; exact F
    exact ⟨fd, F', F'.bindsN (hb d (List.mem_of_getElem? hk))⟩
  nms := fun x k dfl hx => by
    have hm := lookup_mem hx
    have h1 := List.all_eq_true.mp ht _ hm
    simp only at h1
    split at h1
    · rename_i d hk
      rw [Bool.and_eq_true, decide_eq_true_eq] at h1
      refine ⟨?_, by simpa using h1.2, (List.getElem?_eq_some_iff.mp hk).1⟩
      have hf : He.Fa.glo x ∈ faOf T := List.mem_append_left _ (List.mem_map.mpr ⟨_, hm, rfl⟩)
      obtain ⟨i, hi, e⟩ := List.mem_iff_getElem.mp hf
      have := He.glo_ok X G (c.fact i (f := .glo x) (by rw [List.getElem?_eq_getElem hi, e]))
      rw [this]
      congr 2
      show He.ga K x = (match dfs[k]? with | some d => He.fAd K (d.x, none) | none => 0)
      rw [hk, ← h1.1]; rfl
    · cases h1
  free := fun x hx => by
    have hm : x ∈ T.free := by simpa using hx
    have hf : He.Fa.free x ∈ faOf T := List.mem_append_right _ (List.mem_map.mpr ⟨_, hm, rfl⟩)
    obtain ⟨i, hi, e⟩ := List.mem_iff_getElem.mp hf
    exact He.free_ok X G (c.fact i (f := .free x) (by rw [List.getElem?_eq_getElem hi, e]))
theorem no_cx {P : Program} {w : World} (H : Hp) (s : Shared) (e : Value) (s' : Shared) : L2N.CX P w [] H s (fun _ _ _ => False) e s' → False := fun x => by
  obtain ⟨_, _, _, _, _, _, _, _, _, _, _, _, z⟩ := x
  exact z
/-- the facts as a law's end takes them -/
abbrev LawF (P : Program) (w : World) (mg : Str → Option Value) (K : PySem.W.Frag) (k n : Nat) (f : Addr) (x : Str) (fd : FuncData) (sp : Sp) : Prop :=
  (∀ (s : Shared) (u : Value), BindsTo s fd ⟨[u], []⟩ [(x, u)]) ∧
  (∀ (H : Hp) (a : Addr) (ns : List Int), ns.length ≤ n → (∀ z ∈ ns, Builtin.Int.intBits z ≤ 1048576) → Only H → SqL K H a (ns.map V.int) → sp [.ref a] H (fun v _ => v = .bl true) fun _ _ _ => False) ∧
  ∀ base : Heap, K.In base → base.Ns mainGlobals mg → FnOk P w K mg base (L2N.CX P w) k f fd [x] sp
/-- the end: the facts of the law's def -/
theorem law_facts {P : Program} {w : World} {K : PySem.W.Frag} {T : TD} {dfs : List Df} {h : Heap} {mg : Str → Option Value} {f : Addr} {Tb : Tb} {kl n : Nat} {d : Df} {x : Str} (c : He.SaysD (faOf T) (dfs.map dOf) K) (X : K.In h) (G : h.Ns mainGlobals mg) (ht : tdC T dfs = true) (hb : ∀ d ∈ dfs, BindOk d)
    (hd : DfsOk T dfs) (htb : Tb.fds = dfs.map Df.fd) (hl : dfs[kl]? = some d) (hx : d.ps = [x]) (hn : T.defs.lookup d.x = some (kl, [])) (hfa : mg d.x = some (.ref f))
    (hr : ∀ ns : List Int, ns.length ≤ 63 → (∀ z ∈ ns, Builtin.Int.intBits z ≤ 1048576) → ∃ h', (Tb.fns n).call kl [.scr (ns.map D.int)] [] = .ok (.bl true) h') :
    ∃ (fd : FuncData) (sp : Sp), LawF P w mg K (2 * n) 63 f x fd sp := by
  have tx := txt_of (mg := mg) c X G ht hb
  obtain ⟨e, _, _⟩ := tx.nms d.x kl [] hn
  rw [hfa] at e
  have ef : f = (gmOf K dfs).fa kl := by cases e; rfl
  obtain ⟨fd, h1, h2⟩ := tx.fds kl d hl
  refine ⟨fd, spF (gmOf K dfs) (Tb.fns n) kl, fun s u => ?_, fun H a ns hns hbi ho hs => ?_, fun base _ _ => ?_⟩
  · have := h1.bindsA (ps := d.ps) (hb d (List.mem_of_getElem? hl)) s [u] (by rw [hx]; rfl)
    rw [hx] at this
    exact this
  · obtain ⟨h', e⟩ := hr ns hns hbi
    exact law_sp (G := gmOf K dfs) ho hs e
  · obtain ⟨fd', F1, F2, F3⟩ := txt_ok (P := P) (w := w) (base := base) (mg := mg) tx hd htb n kl d hl
    have : fd' = fd := by
      obtain ⟨oc, od, dV, kV, doc, pm, an, cdv, ct, osl, e1, lk, _⟩ := F2.ex
      obtain ⟨oc', od', dV', kV', doc', pm', an', cdv', ct', osl', e2, lk', _⟩ := h1.ex
      rw [lk] at lk'
      cases lk'
      rfl
    subst this
    rw [ef, ← hx]
    exact F1
theorem law_walk {l : PySem.W.OpenLaw} {n k : Nat} {q : Program} {loose : List Str} {XP : (Str → Option Value) → Heap → Prop} {YP : World → Heap → Prop} {d : DefRec} {x : Str}
    (h1 : l.most = some n) (h2 : n ≤ sizeLine) (h3 : d.params.defaults = []) (room : Room k callerA)
    (facts : ∀ (w : World) (mg : Str → Option Value) (f : Addr) (h : Heap), YP w h → h.Ns mainGlobals mg → mg d.name = some (.ref f) → ∃ (K : PySem.W.Frag) (fd : FuncData) (sp : Sp), K.In h ∧ LawF l.prog w mg K k n f x fd sp) :
    PySem.W.WalkO q loose XP YP l.row.toRowW d [] (fun f vs => PySem.call f vs) :=
  Att.attach_callB h1 h3 fun w t0 t1 mg mb f o pm cd doc a vs ns Gr Y _ _ _ em eo is len bits eg => by
    obtain ⟨K, fd, sp, KX, c1, c2, c3⟩ := facts w mg f _ Y Gr.T.g em
    exact law_call KX Gr.T.g Gr.T.b Gr.T.builtins Gr.T.nolimit eg eo is (Nat.le_trans len h2) room c3 c1 (fun H hO hS => c2 H a ns len bits hO hS) fun H e s' => no_cx H t1 e s'
end Mp

set_option Elab.async false
set_option linter.all false
set_option maxRecDepth 100000
set_option maxHeartbeats 4000000
namespace Q31
open PySem PySem.Spec PyProof.Rows L2 Mp
abbrev prg : Program := PySem.Challenge.pw_partproof_k31_pairs_of_calls
def top (i : Nat) : Stmt := prg.main.body.getD i (.Pass ⟨0, 0, 0, 0⟩)
abbrev T : TD := ⟨[("is_call", (0, [])), ("are_pair", (1, [])), ("pairs_of", (2, [])), ("_law_cell_at", (3, [])), ("_law_stream", (4, [])), ("_law_depth", (5, [])), ("_law_num", (6, [])), ("_law_thing", (7, [])), ("_law_term", (8, [])), ("_law_of_one", (9, [])), ("_law_due", (10, [])), ("law", (11, []))], ["enumerate", "len", "range", "max", "isinstance", "tuple", "list"]⟩
abbrev N0 : List Str := ["term"]
abbrev P0 : List Str := ["term"]
abbrev D0 : Df := ⟨"is_call", "is_call", defArgs (top 1), defBody (top 1), defScope (top 1), N0, P0, b0⟩
abbrev N1 : List Str := ["one", "other"]
abbrev P1 : List Str := ["one", "other"]
abbrev D1 : Df := ⟨"are_pair", "are_pair", defArgs (top 2), defBody (top 2), defScope (top 2), N1, P1, b1⟩
abbrev N2 : List Str := ["terms", "calls", "term", "found", "k", "one", "other"]
abbrev P2 : List Str := ["terms"]
abbrev D2 : Df := ⟨"pairs_of", "pairs_of", defArgs (top 3), defBody (top 3), defScope (top 3), N2, P2, b2⟩
abbrev N3 : List Str := ["_law_script", "_law_k"]
abbrev P3 : List Str := ["_law_script", "_law_k"]
abbrev D3 : Df := ⟨"_law_cell_at", "_law_cell_at", defArgs (top 5), defBody (top 5), defScope (top 5), N3, P3, b3⟩
abbrev N4 : List Str := ["_law_cell", "_law_many", "_law_found", "_law_number", "_law_k"]
abbrev P4 : List Str := ["_law_cell", "_law_many"]
abbrev D4 : Df := ⟨"_law_stream", "_law_stream", defArgs (top 6), defBody (top 6), defScope (top 6), N4, P4, b4⟩
abbrev N5 : List Str := ["_law_term_here", "_law_part"]
abbrev P5 : List Str := ["_law_term_here"]
abbrev D5 : Df := ⟨"_law_depth", "_law_depth", defArgs (top 7), defBody (top 7), defScope (top 7), N5, P5, b5⟩
abbrev N6 : List Str := ["_law_made", "_law_number", "_law_nums", "_law_term_here"]
abbrev P6 : List Str := ["_law_made", "_law_number"]
abbrev D6 : Df := ⟨"_law_num", "_law_num", defArgs (top 8), defBody (top 8), defScope (top 8), N6, P6, b6⟩
abbrev N7 : List Str := ["_law_made", "_law_number", "_law_things", "_law_term_here"]
abbrev P7 : List Str := ["_law_made", "_law_number"]
abbrev D7 : Df := ⟨"_law_thing", "_law_thing", defArgs (top 9), defBody (top 9), defScope (top 9), N7, P7, b7⟩
abbrev N8 : List Str := ["_law_made", "_law_xs", "_law_way", "_law_array"]
abbrev P8 : List Str := ["_law_made", "_law_xs"]
abbrev D8 : Df := ⟨"_law_term", "_law_term", defArgs (top 10), defBody (top 10), defScope (top 10), N8, P8, b8⟩
abbrev N9 : List Str := ["_law_one", "_law_other"]
abbrev P9 : List Str := ["_law_one", "_law_other"]
abbrev D9 : Df := ⟨"_law_of_one", "_law_of_one", defArgs (top 11), defBody (top 11), defScope (top 11), N9, P9, b9⟩
abbrev N10 : List Str := ["_law_terms", "_law_first", "_law_term_here", "_law_due_here", "_law_k", "_law_j"]
abbrev P10 : List Str := ["_law_terms"]
abbrev D10 : Df := ⟨"_law_due", "_law_due", defArgs (top 12), defBody (top 12), defScope (top 12), N10, P10, b10⟩
abbrev N11 : List Str := ["_law_script", "_law_made", "_law_cell", "_law_xs", "_law_handed", "_law_told", "_law_term_here"]
abbrev P11 : List Str := ["_law_script"]
abbrev D11 : Df := ⟨"law", "law", defArgs (top 13), defBody (top 13), defScope (top 13), N11, P11, b11⟩
abbrev dfs : List Df := [D0, D1, D2, D3, D4, D5, D6, D7, D8, D9, D10, D11]
section
variable {G : Gm} {W : WX} {F : Fns} {X : Cx}
theorem w0 (ok : XOk T G W F N0 (defScope (top 1)) X) (pa : PassesOwn (model X.prog X.w) X.A X.env X.xe) (fnT : ∀ x, X.fn x = true) : PSs X (defBody (top 1)) (tSs G W F b0) :=
  (rss_cons (rs_ret (k_or ok (k_eq ok (k_ix ok (k_var 0 ok) k_int) k_str) (k_or1 (k_and ok (k_eq ok (k_ix ok (k_var 0 ok) k_int) k_str) (k_and1 (k_eq ok (k_ix ok (k_ix ok (k_var 0 ok) k_int) k_int) k_str))))))
  rss_nil)
theorem w1 (ok : XOk T G W F N1 (defScope (top 2)) X) (pa : PassesOwn (model X.prog X.w) X.A X.env X.xe) (fnT : ∀ x, X.fn x = true) : PSs X (defBody (top 2)) (tSs G W F b1) :=
  (rss_cons (rs_ret (k_and ok (k_ne ok (k_var 0 ok) (k_var 1 ok)) (k_and ok (k_eq ok (k_ix ok (k_var 0 ok) k_int) (k_ix ok (k_var 1 ok) k_int)) (k_and1 (k_eq ok (k_ix ok (k_var 0 ok) k_int) (k_ix ok (k_var 1 ok) k_int))))))
  rss_nil)
theorem w2 (ok : XOk T G W F N2 (defScope (top 3)) X) (pa : PassesOwn (model X.prog X.w) X.A X.env X.xe) (fnT : ∀ x, X.fn x = true) : PSs X (defBody (top 3)) (tSs G W F b2) :=
  (rss_cons (s_set 1 ok (r_lst ra_nil))
  (rss_cons (s_for pa ok (i_seq ok (k_var 0 ok)) (g_name 2 ok) (rss_cons (rs_if (rt_and (h_val ok (k_call 0 [] 0 ok (k_cons (k_var 2 ok) ra_nil))) (h_and1 (h_nin ok (k_var 2 ok) (k_var 1 ok)))).pt (rss_cons (s_ex (k_met (f := .append) rfl ok (k_var 1 ok) (k_cons (k_var 2 ok) ra_nil)))
  rss_nil) rss_nil)
  rss_nil))
  (rss_cons (s_set 3 ok (r_lst ra_nil))
  (rss_cons (s_for pa ok (i_enum ok (k_var 1 ok)) (g_tup ok (gs_cons (g_name 4 ok) (gs_cons (g_name 5 ok) rgs_nil))) (rss_cons (s_for pa ok (i_seq ok (k_sl ok (k_var 1 ok) (ro_some (k_add ok (k_var 4 ok) k_int)) ro_none)) (g_name 6 ok) (rss_cons (rs_if (h_val ok (k_call 1 [] 0 ok (k_cons (k_var 5 ok) (k_cons (k_var 6 ok) ra_nil)))) (rss_cons (s_ex (k_met (f := .append) rfl ok (k_var 3 ok) (k_cons (r_tup (k_cons (k_var 5 ok) (k_cons (k_var 6 ok) ra_nil))) ra_nil)))
  rss_nil) rss_nil)
  rss_nil))
  rss_nil))
  (rss_cons (rs_ret (k_var 3 ok))
  rss_nil)))))
theorem w3 (ok : XOk T G W F N3 (defScope (top 5)) X) (pa : PassesOwn (model X.prog X.w) X.A X.env X.xe) (fnT : ∀ x, X.fn x = true) : PSs X (defBody (top 5)) (tSs G W F b3) :=
  (rss_cons (rs_if (h_lt ok (k_var 1 ok) (k_blt (len_ok ok.hK) ok rfl (k_cons (k_var 0 ok) ra_nil))) (rss_cons (rs_ret (k_ix ok (k_var 0 ok) (k_var 1 ok)))
  rss_nil) rss_nil)
  (rss_cons (rs_ret k_int)
  rss_nil))
theorem w4 (ok : XOk T G W F N4 (defScope (top 6)) X) (pa : PassesOwn (model X.prog X.w) X.A X.env X.xe) (fnT : ∀ x, X.fn x = true) : PSs X (defBody (top 6)) (tSs G W F b4) :=
  (rss_cons (s_set 2 ok (r_lst ra_nil))
  (rss_cons (s_set 3 ok (k_fdiv ok (k_var 0 ok) k_int))
  (rss_cons (rs_whl pa (rt_and (h_eq ok (k_mod ok (k_var 0 ok) k_int) k_int) (rt_and (h_gt ok (k_var 3 ok) k_int) (h_and1 (h_lt ok (k_blt (len_ok ok.hK) ok rfl (k_cons (k_var 2 ok) ra_nil)) (k_var 1 ok))))).pt (rss_cons (s_ex (k_met (f := .append) rfl ok (k_var 2 ok) (k_cons (k_mod ok (k_var 3 ok) (k_pow ok k_int k_int)) ra_nil)))
  (rss_cons (s_set 3 ok (k_fdiv ok (k_var 3 ok) (k_pow ok k_int k_int)))
  rss_nil)))
  (rss_cons (s_set 3 ok (k_mod ok (k_mul ok (k_add ok (k_fdiv ok (k_var 0 ok) k_int) k_int) k_int) k_int))
  (rss_cons (s_for pa ok (i_rng1 ok (k_var 1 ok)) (g_name 4 ok) (rss_cons (s_set 3 ok (k_mod ok (k_mul ok (k_var 3 ok) (k_add ok (k_add ok (k_fdiv ok (k_var 3 ok) k_int) k_int) (k_var 4 ok))) k_int))
  (rss_cons (s_ex (k_met (f := .append) rfl ok (k_var 2 ok) (k_cons (k_var 3 ok) ra_nil)))
  (rss_cons (s_set 3 ok (k_add ok (k_var 3 ok) k_int))
  rss_nil))))
  (rss_cons (rs_ret (k_sl ok (k_var 2 ok) ro_none (ro_some (k_var 1 ok))))
  rss_nil))))))
theorem w5 (ok : XOk T G W F N5 (defScope (top 7)) X) (pa : PassesOwn (model X.prog X.w) X.A X.env X.xe) (fnT : ∀ x, X.fn x = true) : PSs X (defBody (top 7)) (tSs G W F b5) :=
  (rss_cons (rs_ret (k_add ok k_int (k_maxd ok rfl (k_lc [("_law_part", 1)] ok (i_seq ok (k_var 0 ok)) (fun _ ok1 fn1 => (g_name 1 ok1)) (fun _ ok1 => (rc_one (h_val ok1 (k_isi .tuple ok1 rfl rfl (k_var 1 ok1))))) (fun _ ok1 => (k_call 5 [] 0 ok1 (k_cons (k_var 1 ok1) ra_nil)))) k_int)))
  rss_nil)
theorem w6 (ok : XOk T G W F N6 (defScope (top 8)) X) (pa : PassesOwn (model X.prog X.w) X.A X.env X.xe) (fnT : ∀ x, X.fn x = true) : PSs X (defBody (top 8)) (tSs G W F b6) :=
  (rss_cons (s_setLc 2 [("_law_term_here", 3)] ok (i_seq ok (k_var 0 ok)) (fun _ ok1 fn1 => (g_name 3 ok1)) (fun _ ok1 => (rc_one (rt_or (h_in ok1 (k_ix ok1 (k_var 3 ok1) k_int) (r_tup (k_cons k_str (k_cons k_str (k_cons k_str ra_nil))))) (h_or1 (h_eq ok1 (k_sl ok1 (k_var 3 ok1) ro_none (ro_some k_int)) (r_tup (k_cons k_str (k_cons k_str ra_nil)))))).pt)) (fun _ ok1 => (k_var 3 ok1)))
  (rss_cons (s_set 2 ok (k_add ok (k_var 2 ok) (r_lst (k_cons (r_tup (k_cons k_str (k_cons k_str ra_nil))) (k_cons (r_tup (k_cons k_str (k_cons k_str ra_nil))) ra_nil)))))
  (rss_cons (rs_if (h_eq ok (k_mod ok (k_var 1 ok) k_int) k_int) (rss_cons (rs_ret (r_tup (k_cons k_str (k_cons (r_tup (k_cons (k_mod ok (k_fdiv ok (k_var 1 ok) k_int) (k_pow ok k_int k_int)) (k_cons k_int ra_nil))) ra_nil))))
  rss_nil) rss_nil)
  (rss_cons (rs_ret (k_ix ok (k_var 2 ok) (k_mod ok (k_fdiv ok (k_var 1 ok) k_int) (k_blt (len_ok ok.hK) ok rfl (k_cons (k_var 2 ok) ra_nil)))))
  rss_nil))))
theorem w7 (ok : XOk T G W F N7 (defScope (top 9)) X) (pa : PassesOwn (model X.prog X.w) X.A X.env X.xe) (fnT : ∀ x, X.fn x = true) : PSs X (defBody (top 9)) (tSs G W F b7) :=
  (rss_cons (s_setLc 2 [("_law_term_here", 3)] ok (i_seq ok (k_var 0 ok)) (fun _ ok1 fn1 => (g_name 3 ok1)) (fun _ ok1 => (rc_one (h_in ok1 (k_sl ok1 (k_var 3 ok1) ro_none (ro_some k_int)) (r_tup (k_cons (r_tup (k_cons k_str (k_cons k_str ra_nil))) (k_cons (r_tup (k_cons k_str (k_cons k_str ra_nil))) ra_nil)))))) (fun _ ok1 => (k_var 3 ok1)))
  (rss_cons (s_set 2 ok (k_add ok (k_var 2 ok) (r_lst (k_cons (r_tup (k_cons k_str (k_cons k_str ra_nil))) (k_cons (r_tup (k_cons k_str (k_cons k_str ra_nil))) (k_cons (r_tup (k_cons k_str (k_cons k_str ra_nil))) ra_nil))))))
  (rss_cons (rs_ret (k_ix ok (k_var 2 ok) (k_mod ok (k_var 1 ok) (k_blt (len_ok ok.hK) ok rfl (k_cons (k_var 2 ok) ra_nil)))))
  rss_nil)))
theorem w8 (ok : XOk T G W F N8 (defScope (top 10)) X) (pa : PassesOwn (model X.prog X.w) X.A X.env X.xe) (fnT : ∀ x, X.fn x = true) : PSs X (defBody (top 10)) (tSs G W F b8) :=
  (rss_cons (s_set 2 ok (k_mod ok (k_ix ok (k_var 1 ok) k_int) k_int))
  (rss_cons (rs_if (h_eq ok (k_var 2 ok) k_int) (rss_cons (rs_ret (r_tup (k_cons k_str (k_cons (r_tup (k_cons (k_mod ok (k_ix ok (k_var 1 ok) k_int) (k_pow ok k_int k_int)) (k_cons k_int ra_nil))) ra_nil))))
  rss_nil) rss_nil)
  (rss_cons (rs_if (h_eq ok (k_var 2 ok) k_int) (rss_cons (rs_ret (r_tup (k_cons k_str (k_cons (k_ix ok (r_lst (k_cons k_str (k_cons k_str (k_cons k_str (k_cons k_str ra_nil))))) (k_mod ok (k_ix ok (k_var 1 ok) k_int) k_int)) ra_nil))))
  rss_nil) rss_nil)
  (rss_cons (rs_if (h_eq ok (k_var 2 ok) k_int) (rss_cons (rs_ret (r_tup (k_cons k_str (k_cons (r_tup (k_cons (k_call 6 [] 0 ok (k_cons (k_var 0 ok) (k_cons (k_ix ok (k_var 1 ok) k_int) ra_nil))) (k_cons (k_call 6 [] 0 ok (k_cons (k_var 0 ok) (k_cons (k_ix ok (k_var 1 ok) k_int) ra_nil))) ra_nil))) ra_nil))))
  rss_nil) rss_nil)
  (rss_cons (rs_if (h_eq ok (k_var 2 ok) k_int) (rss_cons (rs_ret (r_tup (k_cons k_str (k_cons k_str (k_cons (r_tup (k_cons (k_call 6 [] 0 ok (k_cons (k_var 0 ok) (k_cons (k_ix ok (k_var 1 ok) k_int) ra_nil))) (k_cons (k_call 7 [] 0 ok (k_cons (k_var 0 ok) (k_cons (k_ix ok (k_var 1 ok) k_int) ra_nil))) ra_nil))) ra_nil)))))
  rss_nil) rss_nil)
  (rss_cons (rs_if (h_eq ok (k_var 2 ok) k_int) (rss_cons (rs_ret (r_tup (k_cons k_str (k_cons k_str (k_cons (r_tup (k_cons (k_call 7 [] 0 ok (k_cons (k_var 0 ok) (k_cons (k_ix ok (k_var 1 ok) k_int) ra_nil))) ra_nil)) ra_nil)))))
  rss_nil) rss_nil)
  (rss_cons (rs_if (h_eq ok (k_var 2 ok) k_int) (rss_cons (rs_ret (r_tup (k_cons k_str (k_cons k_str (k_cons (r_tup (k_cons (k_call 6 [] 0 ok (k_cons (k_var 0 ok) (k_cons (k_ix ok (k_var 1 ok) k_int) ra_nil))) ra_nil)) ra_nil)))))
  rss_nil) rss_nil)
  (rss_cons (s_set 3 ok (r_tup (k_cons k_str (k_cons (k_ix ok (r_lst (k_cons k_str (k_cons k_str ra_nil))) (k_mod ok (k_ix ok (k_var 1 ok) k_int) k_int)) ra_nil))))
  (rss_cons (rs_if (h_eq ok (k_var 2 ok) k_int) (rss_cons (s_set 3 ok (r_tup (k_cons k_str (k_cons (k_var 3 ok) (k_cons (k_call 6 [] 0 ok (k_cons (k_var 0 ok) (k_cons (k_ix ok (k_var 1 ok) k_int) ra_nil))) (k_cons (k_call 6 [] 0 ok (k_cons (k_var 0 ok) (k_cons (k_ix ok (k_var 1 ok) k_int) ra_nil))) ra_nil))))))
  rss_nil) rss_nil)
  (rss_cons (rs_ret (r_tup (k_cons k_str (k_cons (k_var 3 ok) (k_cons (k_call 6 [] 0 ok (k_cons (k_var 0 ok) (k_cons (k_ix ok (k_var 1 ok) k_int) ra_nil))) ra_nil)))))
  rss_nil))))))))))
theorem w9 (ok : XOk T G W F N9 (defScope (top 11)) X) (pa : PassesOwn (model X.prog X.w) X.A X.env X.xe) (fnT : ∀ x, X.fn x = true) : PSs X (defBody (top 11)) (tSs G W F b9) :=
  (rss_cons (rs_if (h_eq ok (k_ix ok (k_var 0 ok) k_int) k_str) (rss_cons (rs_ret (k_and ok (k_eq ok (k_ix ok (k_var 1 ok) k_int) k_str) (k_and1 (k_eq ok (k_ix ok (k_var 0 ok) k_int) (k_ix ok (k_var 1 ok) k_int)))))
  rss_nil) rss_nil)
  (rss_cons (rs_ret (k_and ok (k_eq ok (k_ix ok (k_var 0 ok) k_int) k_str) (k_and ok (k_eq ok (k_ix ok (k_var 1 ok) k_int) k_str) (k_and ok (k_eq ok (k_ix ok (k_ix ok (k_var 0 ok) k_int) k_int) k_str) (k_and1 (k_eq ok (k_ix ok (k_var 0 ok) k_int) (k_ix ok (k_var 1 ok) k_int)))))))
  rss_nil))
theorem w10 (ok : XOk T G W F N10 (defScope (top 12)) X) (pa : PassesOwn (model X.prog X.w) X.A X.env X.xe) (fnT : ∀ x, X.fn x = true) : PSs X (defBody (top 12)) (tSs G W F b10) :=
  (rss_cons (s_set 1 ok (r_lst ra_nil))
  (rss_cons (s_for pa ok (i_seq ok (k_var 0 ok)) (g_name 2 ok) (rss_cons (rs_if (h_nin ok (k_var 2 ok) (k_var 1 ok)) (rss_cons (s_ex (k_met (f := .append) rfl ok (k_var 1 ok) (k_cons (k_var 2 ok) ra_nil)))
  rss_nil) rss_nil)
  rss_nil))
  (rss_cons (s_set 3 ok (r_lst ra_nil))
  (rss_cons (s_for pa ok (i_rng1 ok (k_blt (len_ok ok.hK) ok rfl (k_cons (k_var 1 ok) ra_nil))) (g_name 4 ok) (rss_cons (s_for pa ok (i_rng2 ok (k_add ok (k_var 4 ok) k_int) (k_blt (len_ok ok.hK) ok rfl (k_cons (k_var 1 ok) ra_nil))) (g_name 5 ok) (rss_cons (rs_if (h_val ok (k_call 9 [] 0 ok (k_cons (k_ix ok (k_var 1 ok) (k_var 4 ok)) (k_cons (k_ix ok (k_var 1 ok) (k_var 5 ok)) ra_nil)))) (rss_cons (s_ex (k_met (f := .append) rfl ok (k_var 3 ok) (k_cons (r_tup (k_cons (k_ix ok (k_var 1 ok) (k_var 4 ok)) (k_cons (k_ix ok (k_var 1 ok) (k_var 5 ok)) ra_nil))) ra_nil)))
  rss_nil) rss_nil)
  rss_nil))
  rss_nil))
  (rss_cons (rs_ret (k_var 3 ok))
  rss_nil)))))
theorem w11 (ok : XOk T G W F N11 (defScope (top 13)) X) (pa : PassesOwn (model X.prog X.w) X.A X.env X.xe) (fnT : ∀ x, X.fn x = true) : PSs X (defBody (top 13)) (tSs G W F b11) :=
  (rss_cons (s_set 1 ok (r_lst ra_nil))
  (rss_cons (s_for pa ok (i_seq ok (k_sl ok (k_var 0 ok) ro_none (ro_some k_int))) (g_name 2 ok) (rss_cons (s_set 3 ok (k_call 4 [] 0 ok (k_cons (k_var 2 ok) (k_cons k_int ra_nil))))
  (rss_cons (rs_if (rt_and (h_ne ok (k_var 1 ok) (r_lst ra_nil)) (h_and1 (h_eq ok (k_mod ok (k_ix ok (k_var 3 ok) k_int) k_int) k_int))).pt (rss_cons (s_ex (k_met (f := .append) rfl ok (k_var 1 ok) (k_cons (k_ix ok (k_var 1 ok) (k_mod ok (k_ix ok (k_var 3 ok) k_int) (k_blt (len_ok ok.hK) ok rfl (k_cons (k_var 1 ok) ra_nil)))) ra_nil)))
  rss_nil) (rss_cons (s_ex (k_met (f := .append) rfl ok (k_var 1 ok) (k_cons (k_call 8 [] 0 ok (k_cons (k_lc [("_law_term_here", 6)] ok (i_seq ok (k_sl ok (k_var 1 ok) (ro_some (r_neg k_int)) ro_none)) (fun _ ok1 fn1 => (g_name 6 ok1)) (fun _ ok1 => (rc_one (h_lt ok1 (k_call 5 [] 0 ok1 (k_cons (k_var 6 ok1) ra_nil)) k_int))) (fun _ ok1 => (k_var 6 ok1))) (k_cons (k_var 3 ok) ra_nil))) ra_nil)))
  rss_nil))
  rss_nil)))
  (rss_cons (s_set 4 ok (k_bty (list_ok ok.hK) ok rfl (k_cons (k_var 1 ok) ra_nil)))
  (rss_cons (s_set 5 ok (k_call 2 [] 0 ok (k_cons (k_var 4 ok) ra_nil)))
  (rss_cons (rs_if (rt_or (rt_not (h_val ok (k_isi .list ok rfl rfl (k_var 5 ok)))) (rt_or (h_ne ok (k_var 5 ok) (k_call 10 [] 0 ok (k_cons (k_var 1 ok) ra_nil))) (h_or1 (h_ne ok (k_var 4 ok) (k_var 1 ok))))).pt (rss_cons (rs_ret k_bl)
  rss_nil) rss_nil)
  (rss_cons (s_ex (k_met (f := .append) rfl ok (k_var 5 ok) (k_cons (r_tup ra_nil) ra_nil)))
  (rss_cons (rs_ret (k_eq ok (k_call 2 [] 0 ok (k_cons (k_var 1 ok) ra_nil)) (k_call 10 [] 0 ok (k_cons (k_var 1 ok) ra_nil))))
  rss_nil)))))))
end
end Q31

set_option Elab.async false
set_option linter.all false
set_option maxRecDepth 100000
set_option maxHeartbeats 4000000
namespace Q31
open PySem PySem.Spec PyProof.Rows L2 Mp
theorem sc0 : FnScope N0 P0 (defScope (top 1)) := ⟨rfl, rfl, rfl, by decide +kernel, rfl, by decide +kernel, by decide +kernel⟩
theorem bo0 : BindOk D0 := fun _ _ _ _ _ _ us hl => match us, hl with | [_], _ => rfl
theorem sc1 : FnScope N1 P1 (defScope (top 2)) := ⟨rfl, rfl, rfl, by decide +kernel, rfl, by decide +kernel, by decide +kernel⟩
theorem bo1 : BindOk D1 := fun _ _ _ _ _ _ us hl => match us, hl with | [_, _], _ => rfl
theorem sc2 : FnScope N2 P2 (defScope (top 3)) := ⟨rfl, rfl, rfl, by decide +kernel, rfl, by decide +kernel, by decide +kernel⟩
theorem bo2 : BindOk D2 := fun _ _ _ _ _ _ us hl => match us, hl with | [_], _ => rfl
theorem sc3 : FnScope N3 P3 (defScope (top 5)) := ⟨rfl, rfl, rfl, by decide +kernel, rfl, by decide +kernel, by decide +kernel⟩
theorem bo3 : BindOk D3 := fun _ _ _ _ _ _ us hl => match us, hl with | [_, _], _ => rfl
theorem sc4 : FnScope N4 P4 (defScope (top 6)) := ⟨rfl, rfl, rfl, by decide +kernel, rfl, by decide +kernel, by decide +kernel⟩
theorem bo4 : BindOk D4 := fun _ _ _ _ _ _ us hl => match us, hl with | [_, _], _ => rfl
theorem sc5 : FnScope N5 P5 (defScope (top 7)) := ⟨rfl, rfl, rfl, by decide +kernel, rfl, by decide +kernel, by decide +kernel⟩
theorem bo5 : BindOk D5 := fun _ _ _ _ _ _ us hl => match us, hl with | [_], _ => rfl
theorem sc6 : FnScope N6 P6 (defScope (top 8)) := ⟨rfl, rfl, rfl, by decide +kernel, rfl, by decide +kernel, by decide +kernel⟩
theorem bo6 : BindOk D6 := fun _ _ _ _ _ _ us hl => match us, hl with | [_, _], _ => rfl
theorem sc7 : FnScope N7 P7 (defScope (top 9)) := ⟨rfl, rfl, rfl, by decide +kernel, rfl, by decide +kernel, by decide +kernel⟩
theorem bo7 : BindOk D7 := fun _ _ _ _ _ _ us hl => match us, hl with | [_, _], _ => rfl
theorem sc8 : FnScope N8 P8 (defScope (top 10)) := ⟨rfl, rfl, rfl, by decide +kernel, rfl, by decide +kernel, by decide +kernel⟩
theorem bo8 : BindOk D8 := fun _ _ _ _ _ _ us hl => match us, hl with | [_, _], _ => rfl
theorem sc9 : FnScope N9 P9 (defScope (top 11)) := ⟨rfl, rfl, rfl, by decide +kernel, rfl, by decide +kernel, by decide +kernel⟩
theorem bo9 : BindOk D9 := fun _ _ _ _ _ _ us hl => match us, hl with | [_, _], _ => rfl
theorem sc10 : FnScope N10 P10 (defScope (top 12)) := ⟨rfl, rfl, rfl, by decide +kernel, rfl, by decide +kernel, by decide +kernel⟩
theorem bo10 : BindOk D10 := fun _ _ _ _ _ _ us hl => match us, hl with | [_], _ => rfl
theorem sc11 : FnScope N11 P11 (defScope (top 13)) := ⟨rfl, rfl, rfl, by decide +kernel, rfl, by decide +kernel, by decide +kernel⟩
theorem bo11 : BindOk D11 := fun _ _ _ _ _ _ us hl => match us, hl with | [_], _ => rfl
theorem bos : ∀ d ∈ dfs, BindOk d := List.forall_mem_cons.mpr ⟨bo0, List.forall_mem_cons.mpr ⟨bo1, List.forall_mem_cons.mpr ⟨bo2, List.forall_mem_cons.mpr ⟨bo3, List.forall_mem_cons.mpr ⟨bo4, List.forall_mem_cons.mpr ⟨bo5, List.forall_mem_cons.mpr ⟨bo6, List.forall_mem_cons.mpr ⟨bo7, List.forall_mem_cons.mpr ⟨bo8, List.forall_mem_cons.mpr ⟨bo9, List.forall_mem_cons.mpr ⟨bo10, List.forall_mem_cons.mpr ⟨bo11, (fun _ h => nomatch h)⟩⟩⟩⟩⟩⟩⟩⟩⟩⟩⟩⟩
def okD (d : Df) : Prop := FnScope d.N d.ps d.scope ∧ ∀ (G : Gm) (W : WX) (F : Fns) (X : Cx), XOk T G W F d.N d.scope X → PassesOwn (model X.prog X.w) X.A X.env X.xe → (∀ x, X.fn x = true) → PSs X d.body (tSs G W F d.b)
theorem oks : ∀ d ∈ dfs, okD d := List.forall_mem_cons.mpr ⟨⟨sc0, fun _ _ _ _ a b c => w0 a b c⟩, List.forall_mem_cons.mpr ⟨⟨sc1, fun _ _ _ _ a b c => w1 a b c⟩, List.forall_mem_cons.mpr ⟨⟨sc2, fun _ _ _ _ a b c => w2 a b c⟩, List.forall_mem_cons.mpr ⟨⟨sc3, fun _ _ _ _ a b c => w3 a b c⟩, List.forall_mem_cons.mpr ⟨⟨sc4, fun _ _ _ _ a b c => w4 a b c⟩, List.forall_mem_cons.mpr ⟨⟨sc5, fun _ _ _ _ a b c => w5 a b c⟩, List.forall_mem_cons.mpr ⟨⟨sc6, fun _ _ _ _ a b c => w6 a b c⟩, List.forall_mem_cons.mpr ⟨⟨sc7, fun _ _ _ _ a b c => w7 a b c⟩, List.forall_mem_cons.mpr ⟨⟨sc8, fun _ _ _ _ a b c => w8 a b c⟩, List.forall_mem_cons.mpr ⟨⟨sc9, fun _ _ _ _ a b c => w9 a b c⟩, List.forall_mem_cons.mpr ⟨⟨sc10, fun _ _ _ _ a b c => w10 a b c⟩, List.forall_mem_cons.mpr ⟨⟨sc11, fun _ _ _ _ a b c => w11 a b c⟩, (fun _ h => nomatch h)⟩⟩⟩⟩⟩⟩⟩⟩⟩⟩⟩⟩
theorem dok : DfsOk T dfs := ⟨fun k d h => (oks d (List.mem_of_getElem? h)).1, fun k d h => (oks d (List.mem_of_getElem? h)).2⟩
theorem tdc : tdC T dfs = true := by kernel_rfl
theorem fdse : tb.fds = dfs.map Df.fd := rfl
def fn : List He.DefD := dfs.map dOf
def fa : List He.Fa := faOf T
abbrev R : PySem.W.OpenRow := PySem.W.OpenLaw.row PySem.Challenge.rw_partproof_k31_pairs_of_calls
abbrev hk : PySem.W.Hook := He.hookD 4 fa fn
def ob (s : PySem.W.SharedT) : He.AlD := He.obsDG 4 fa fn (HandSHeadRun.getT s)
theorem ob_eq (s : PySem.W.SharedT) : ob s = hk.obs s.abs := He.obsDG_eq (HandSHeadRun.getT_eq s)
theorem run (w : World) : HandSHeadRun.RunEq R (PySem.W.view R.prog [13]) hk ob 2000 ["is_call", "are_pair", "pairs_of", "_law_cell_at", "_law_stream", "_law_depth", "_law_num", "_law_thing", "_law_term", "_law_of_one", "_law_due"] w := by
  intro os
  kernel_rfl
end Q31
open PySem PySem.W PySem.Calls PyProof.Rows
theorem PySem.Challenge.cw_partproof_k31_pairs_of_calls_holds : PySem.Challenge.rw_partproof_k31_pairs_of_calls.Holds := by
  w_on; o_law
  refine HandSHeadRun.head_any (r := OpenLaw.row PySem.Challenge.rw_partproof_k31_pairs_of_calls) (q := view (OpenLaw.row PySem.Challenge.rw_partproof_k31_pairs_of_calls).prog [13]) (H := Q31.hk) (ob := Q31.ob) (M := 2000) (loose := ["is_call", "are_pair", "pairs_of", "_law_cell_at", "_law_stream", "_law_depth", "_law_num", "_law_thing", "_law_term", "_law_of_one", "_law_due"]) (d := HandSHeadRun.topDef (OpenLaw.row PySem.Challenge.rw_partproof_k31_pairs_of_calls).prog 13) (kwd := []) Q31.ob_eq
    (by kernel_rfl) (fun s => by kernel_rfl) Q31.run (by kernel_rfl) (by kernel_rfl) (by kernel_rfl) (by rfl) (by first | assumption | decide +kernel) (by decide +kernel) ⟨rfl, rfl, rfl, rfl, rfl, by decide +kernel⟩ ?hw ?hc
  case hw => w_witness2
  case hc =>
    refine Mp.law_walk (l := PySem.Challenge.rw_partproof_k31_pairs_of_calls) (n := 63) (k := 2 * Q31.levels) (x := "_law_script") rfl (by decide) (by kernel_rfl) ⟨rfl, by decide, by decide⟩ ?F
    intro w mg fa h Y G hmg0
    obtain ⟨K, KX, c⟩ := Y
    have hmg : mg ("law" : PySem.Str) = some (.ref fa) := by
      have e : (HandSHeadRun.topDef (OpenLaw.row PySem.Challenge.rw_partproof_k31_pairs_of_calls).prog 13).name = ("law" : PySem.Str) := by kernel_rfl
      rw [← e]
      exact hmg0
    obtain ⟨fd, sp, hF⟩ := Mp.law_facts (P := (PySem.Challenge.rw_partproof_k31_pairs_of_calls).prog) (w := w) (T := Q31.T) (dfs := Q31.dfs) (Tb := Q31.tb) (kl := 11) (n := Q31.levels) (d := Q31.D11) (x := "_law_script") c KX G Q31.tdc Q31.bos Q31.dok Q31.fdse rfl rfl (by kernel_rfl) hmg Q31.law_ok
    exact ⟨K, fd, sp, KX, hF⟩

