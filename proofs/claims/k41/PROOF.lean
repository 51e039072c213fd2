import PyProof.Rows.All
import Wide.All
import OpenK.AllK
import Wide.FinOn
import HandS.ForMost
import HandS.ForExc
import HandS.Flow
import HandS.Style
import HandS.Wide
import HandS.TupAny
import HandS.IsInst
import HandS.Deep
import HandS.NoneIn
import HandS.ExcCtx
import HandS.HotCalls
import HandS.CallSlots
import HandS.More
import KE.KeyNested
import KE.KDictKeyed
import KE.KDictWalk
import HandS.SetKeys
import PyProof.Rows.SeqRoads
import KE.KIsAll
import HandS.Zip
import PyProof.Rows.CallKwBuiltin
import KE.DataMinMax
import KE.SortData
import HandS.Head0
import HandS.Head1
import HandS.Head2
import HandS.HeadEnd
import HandS.HeadHook1
import HandS.HeadHook2
import HandS.EndBits
import HandS.HeadHook3
import HandS.HeadHook4
import PySem.Challenge.RW_partproof_k41_hits_misses_needs
set_option Elab.async false
set_option linter.all false
set_option maxRecDepth 100000
/-! C1: a small pure interpreter: values, a pure heap, expressions, statements, defs. -/
namespace Mp
open PySem (Str)

/-- a value; scr: a list that is only read (the script); lst is no value of a run, it stands for a list that was looked through -/
inductive D where
  | non | bl (b : Bool) | int (i : Int) | str (x : Str) | tup (ds : List D) | ref (l : Nat) | fn (k : Nat) | exn (c : Nat) | lst (ds : List D) | scr (ds : List D)

mutual
def D.beq : D → D → Bool
  | .non, .non => true
  | .bl a, .bl b => a == b
  | .int a, .int b => decide (a = b)
  | .str a, .str b => decide (a = b)
  | .tup a, .tup b => D.beqs a b
  | .ref a, .ref b => a == b
  | .fn a, .fn b => a == b
  | .exn a, .exn b => a == b
  | .lst a, .lst b => D.beqs a b
  | .scr a, .scr b => D.beqs a b
  | _, _ => false
def D.beqs : List D → List D → Bool
  | [], [] => true
  | x :: xs, y :: ys => D.beq x y && D.beqs xs ys
  | _, _ => false
end
mutual
theorem D.beq_self : ∀ a : D, D.beq a a = true
  | .non => rfl
  | .bl a => by simp [D.beq]
  | .int a => by simp [D.beq]
  | .str a => by simp [D.beq]
  | .tup a => by rw [D.beq]; exact D.beqs_self a
  | .ref a => by simp [D.beq]
  | .fn a => by simp [D.beq]
  | .exn a => by simp [D.beq]
  | .lst a => by rw [D.beq]; exact D.beqs_self a
  | .scr a => by rw [D.beq]; exact D.beqs_self a
theorem D.beqs_self : ∀ a : List D, D.beqs a a = true
  | [] => rfl
  | x :: xs => by rw [D.beqs, D.beq_self x, D.beqs_self xs]; rfl
end
mutual
theorem D.eq_of_beq : ∀ a b : D, D.beq a b = true → a = b
  | .non, b, h => by cases b <;> simp_all [D.beq]
  | .bl a, b, h => by cases b <;> simp_all [D.beq]
  | .int a, b, h => by cases b <;> simp_all [D.beq]
  | .str a, b, h => by cases b <;> simp_all [D.beq]
  | .tup a, b, h => by
    cases b <;> first | (simp [D.beq] at h; done) | (rename_i b; rw [D.beq] at h; rw [D.eqs_of_beqs a b h])
  | .ref a, b, h => by cases b <;> simp_all [D.beq]
  | .fn a, b, h => by cases b <;> simp_all [D.beq]
  | .exn a, b, h => by cases b <;> simp_all [D.beq]
  | .lst a, b, h => by
    cases b <;> first | (simp [D.beq] at h; done) | (rename_i b; rw [D.beq] at h; rw [D.eqs_of_beqs a b h])
  | .scr a, b, h => by
    cases b <;> first | (simp [D.beq] at h; done) | (rename_i b; rw [D.beq] at h; rw [D.eqs_of_beqs a b h])
theorem D.eqs_of_beqs : ∀ a b : List D, D.beqs a b = true → a = b
  | [], b, h => by cases b <;> simp_all [D.beqs]
  | x :: xs, b, h => by
    cases b with
    | nil => simp [D.beqs] at h
    | cons y ys =>
      rw [D.beqs, Bool.and_eq_true] at h
      rw [D.eq_of_beq x y h.1, D.eqs_of_beqs xs ys h.2]
end
instance : DecidableEq D := fun a b => if h : D.beq a b = true then .isTrue (D.eq_of_beq a b h) else .isFalse fun e => h (e ▸ D.beq_self a)
instance : Inhabited D := ⟨.non⟩

/-! Python's == of values that hold no mutable object -/
mutual
def D.eqv : D → D → Bool
  | .non, .non => true
  | .bl a, .bl b => a == b
  | .bl a, .int j => (if a then 1 else 0) == j
  | .int i, .bl b => i == (if b then 1 else 0)
  | .int i, .int j => i == j
  | .str x, .str y => x == y
  | .lst xs, .lst ys => D.eqvs xs ys
  | .tup xs, .tup ys => D.eqvs xs ys
  | _, _ => false
def D.eqvs : List D → List D → Bool
  | [], [] => true
  | x :: xs, y :: ys => D.eqv x y && D.eqvs xs ys
  | _, _ => false
end

/-- a mutable object -/
inductive O where
  | lst (ds : List D) | dct (kvs : List (D × D)) | tdc (kvs : List (D × D)) | ins (c : Nat) (fs : List (Str × D))
  deriving DecidableEq
abbrev PH := List O
abbrev Env := List (Option D)

def mapO {α β : Type} (f : α → Option β) : List α → Option (List β)
  | [] => some []
  | x :: xs => match f x with
    | some y => match mapO f xs with
      | some ys => some (y :: ys)
      | none => none
    | none => none

/-- a value with its lists looked through -/
def deref (h : PH) : Nat → D → Option D
  | _, .non => some .non
  | _, .bl b => some (.bl b)
  | _, .int i => some (.int i)
  | _, .str x => if PySem.PyData.strOk x then some (.str x) else none
  | n + 1, .tup ds => match mapO (deref h n) ds with
    | some es => some (.tup es)
    | none => none
  | n + 1, .ref l => match h[l]? with
    | some (.lst ds) => match mapO (deref h n) ds with
      | some es => some (.lst es)
      | none => none
    | _ => none
  | n + 1, .scr ds => match mapO (deref h n) ds with
    | some es => some (.lst es)
    | none => none
  | _, _ => none

inductive Res (α : Type) where
  | ok (a : α) (h : PH) | exc (c : Nat) (h : PH) | stk
@[reducible] def Res.bind {α β : Type} (r : Res α) (f : α → PH → Res β) : Res β :=
  match r with
  | .ok a h => f a h
  | .exc c h => .exc c h
  | .stk => .stk

def mx : Nat := 16777216

inductive Bop where
  | add | sub | mul | fdiv | mod | pow
  deriving DecidableEq
inductive Cop where
  | eq | ne | lt | le | gt | ge | isN | notN | isB (b : Bool) | notB (b : Bool) | ein | nin
  deriving DecidableEq

/-- the items of a list or a tuple -/
def seqOf (h : PH) : D → Option (List D)
  | .tup ds => some ds
  | .scr ds => some ds
  | .ref l => match h[l]? with
    | some (.lst ds) => some ds
    | _ => none
  | _ => none

def lstOf (h : PH) : D → Option (List D)
  | .scr ds => some ds
  | .ref l => match h[l]? with
    | some (.lst ds) => some ds
    | _ => none
  | _ => none

def newL (ds : List D) (h : PH) : Res D := .ok (.ref h.length) (h ++ [.lst ds])

def mulOk (i j : Int) : Bool := (decide (-(2 ^ 64) < i) && decide (i < 2 ^ 64)) || (decide (-(2 ^ 64) < j) && decide (j < 2 ^ 64)) || decide (i.natAbs < 2 ^ 4000 ∧ j.natAbs < 2 ^ 4000)

def binop : Bop → D → D → PH → Res D
  | .add, .int i, .int j, h => .ok (.int (i + j)) h
  | .add, .int i, .bl k, h => .ok (.int (i + (if k then 1 else 0))) h
  | .add, .str x, .str y, h => if x.length + y.length ≤ mx then .ok (.str (x ++ y)) h else .stk
  | .add, .tup xs, .tup ys, h => if xs.length + ys.length ≤ mx then .ok (.tup (xs ++ ys)) h else .stk
  | .add, .ref l, .ref m, h => match h[l]?, h[m]? with
    | some (.lst xs), some (.lst ys) => if xs.length + ys.length ≤ mx then newL (xs ++ ys) h else .stk
    | _, _ => .stk
  | .sub, .int i, .int j, h => .ok (.int (i - j)) h
  | .mul, .int i, .int j, h => if mulOk i j then .ok (.int (i * j)) h else .stk
  | .mul, .ref l, .int k, h => match h[l]? with
    | some (.lst xs) => if -(2 ^ 63) ≤ k ∧ k < 2 ^ 63 ∧ xs.length * k.toNat ≤ mx then newL (List.replicate k.toNat xs).flatten h else .stk
    | _ => .stk
  | .fdiv, .int i, .int j, h => if 0 < j ∧ j.natAbs < 2 ^ 4000 then .ok (.int (i / j)) h else if j < 0 ∧ j.natAbs < 1073741824 then .ok (.int (i.fdiv j)) h else .stk
  | .mod, .int i, .int j, h => if 0 < j then .ok (.int (i % j)) h else if j < 0 then .ok (.int (i.fmod j)) h else .stk
  | .pow, .int i, .int j, h => if 0 ≤ j ∧ j ≤ 1000000 ∧ i.natAbs < 2 ^ 64 then .ok (.int (i ^ j.toNat)) h else .stk
  | _, _, _, _ => .stk

/-- the keys of a dict: what they are up to == -/
def keyOf : D → Option D
  | .bl b => none
  | .int i => some (.int i)
  | .str x => some (.str x)
  | _ => none
def look (k : D) : List (D × D) → Option D
  | [] => none
  | (j, v) :: r => if j = k then some v else look k r
def put (k v : D) (kvs : List (D × D)) : List (D × D) :=
  if (kvs.any fun kv => decide (kv.1 = k)) = true then kvs.map (fun kv => if kv.1 = k then (kv.1, v) else kv) else kvs ++ [(k, v)]

def dctOf (h : PH) : D → Option (List (D × D))
  | .ref l => match h[l]? with
    | some (.dct kvs) => some kvs
    | _ => none
  | _ => none

/-- keys that are tuples: at most n in one another -/
def tkB : Nat → D → Bool
  | _, .non => true
  | _, .int _ => true
  | _, .str _ => true
  | n + 1, .tup ds => ds.all (tkB n)
  | _, _ => false
def keyT : D → Option D
  | .tup ds => if tkB 8 (.tup ds) then some (.tup ds) else none
  | _ => none
/-- a dict whose keys are tuples -/
def tdOf (h : PH) : D → Option (List (D × D))
  | .ref l => match h[l]? with
    | some (.tdc kvs) => some kvs
    | some (.dct []) => some []
    | _ => none
  | _ => none
/-- what a dict has at a key -/
def dget (h : PH) (a b : D) : Option (Option D) := match dctOf h a, keyOf b with
  | some kvs, some k => some (look k kvs)
  | _, _ => match tdOf h a, keyT b with
    | some kvs, some k => some (look k kvs)
    | _, _ => none
def memD (h : PH) (a b : D) : Option Bool :=
  match a, b with
  | .str x, .str y => some (!(PySem.Builtin.Str.occurrences y x 0 y.length 1).isEmpty)
  | a, b => match dget h b a with
    | some o => some o.isSome
    | none => match deref h 64 a, deref h 64 b with
      | some x, some (.lst ys) => some (ys.any fun z => D.eqv z x)
      | some x, some (.tup ys) => some (ys.any fun z => D.eqv z x)
      | _, _ => none

def eqD (h : PH) (a b : D) : Option Bool := match deref h 64 a, deref h 64 b with
  | some x, some y => some (D.eqv x y)
  | _, _ => none

def bool? (b : Option Bool) (h : PH) : Res D := match b with
  | some b => .ok (.bl b) h
  | none => .stk

def cmpop : Cop → D → D → PH → Res D
  | .eq, a, b, h => bool? (eqD h a b) h
  | .ne, a, b, h => bool? ((eqD h a b).map not) h
  | .lt, .int i, .int j, h => .ok (.bl (decide (i < j))) h
  | .le, .int i, .int j, h => .ok (.bl (decide (i ≤ j))) h
  | .gt, .int i, .int j, h => .ok (.bl (decide (j < i))) h
  | .ge, .int i, .int j, h => .ok (.bl (decide (j ≤ i))) h
  | .isN, a, _, h => .ok (.bl (decide (a = .non))) h
  | .notN, a, _, h => .ok (.bl (!decide (a = .non))) h
  | .isB c, .bl b, _, h => .ok (.bl (b == c)) h
  | .notB c, .bl b, _, h => .ok (.bl (!(b == c))) h
  | .ein, a, b, h => bool? (memD h a b) h
  | .nin, a, b, h => bool? ((memD h a b).map not) h
  | _, _, _, _ => .stk

/-- truth -/
def tru (h : PH) : D → Option Bool
  | .non => some false
  | .bl b => some b
  | .int i => some (i != 0)
  | .str x => if x.length ≤ mx then some ((x.length : Int) != 0) else none
  | .tup ds => some (!ds.isEmpty)
  | .scr ds => some (!ds.isEmpty)
  | .ref l => match h[l]? with
    | some (.lst ds) => some (!ds.isEmpty)
    | some (.dct kvs) => some (!kvs.isEmpty)
    | _ => none
  | _ => none

/-- an item's place, of any sign -/
def place (n : Nat) (i : Int) : Option Nat := if 0 ≤ i then (if i < n then some i.toNat else none) else if -(n : Int) ≤ i then some (i + n).toNat else none
def item (xs : List D) (i : Int) : Option D := match place xs.length i with
  | some j => xs[j]?
  | none => none
def ixop (a b : D) (h : PH) : Res D := match dget h a b with
  | some (some d) => .ok d h
  | some none => .stk
  | none => match b with
  | .int i =>
    (match a with
    | .str x => if x.length ≤ mx then (match place x.cps.toList.length i with
      | some j => (match x.cps.toList[j]? with
        | some c => .ok (.str ⟨#[c]⟩) h
        | none => .stk)
      | none => .stk) else .stk
    | a => match seqOf h a with
      | some xs => (match item xs i with
        | some d => .ok d h
        | none => .stk)
      | none => .stk)
  | _ => .stk

/-- the ends of a slice -/
def sIx (n d : Nat) : Option Int → Nat
  | none => d
  | some v => if v < 0 then (v + (n : Int)).toNat else min v.toNat n
def cut (xs : List D) (lo hi : Option Int) : List D := (xs.drop (sIx xs.length 0 lo)).take (sIx xs.length xs.length hi - sIx xs.length 0 lo)
def slop (a : D) (lo hi : Option Int) (h : PH) : Res D := match a with
  | .tup ds => .ok (.tup (cut ds lo hi)) h
  | a => match lstOf h a with
    | some ds => newL (cut ds lo hi) h
    | none => .stk

inductive Ty where
  | int | bool | str | list | tuple | dict
  deriving DecidableEq
def isTy (h : PH) : D → Ty → Option Bool
  | .non, _ => some false
  | .bl _, t => some (t = .bool || t = .int)
  | .int _, t => some (t = .int)
  | .str _, t => some (t = .str)
  | .tup _, t => some (t = .tuple)
  | .scr _, t => some (t = .list)
  | .ref l, t => match h[l]? with
    | some (.lst _) => some (t = .list)
    | some (.dct _) => some (t = .dict)
    | some (.tdc _) => some (t = .dict)
    | _ => none
  | _, _ => none

/-- built-in functions -/
inductive Bif where
  | len | abs | int | list | tuple | isi (t : Ty) | max2 | min2 | all | any | sum | maxd
  deriving DecidableEq
def bools : List D → Option (List Bool) := mapO fun
  | .bl b => some b
  | _ => none
def intsD : List D → Option (List Int) := mapO fun
  | .int i => some i
  | _ => none
/-- max(xs, default=d) of ints -/
def mxd (d : Int) : List Int → Int
  | [] => d
  | i :: r => r.foldl max i
def bfn : Bif → List D → PH → Res D
  | .len, [.str x], h => if x.length ≤ mx then .ok (.int x.length) h else .stk
  | .len, [a], h => match seqOf h a with
    | some ds => .ok (.int ds.length) h
    | none => match dctOf h a with
      | some kvs => .ok (.int kvs.length) h
      | none => match tdOf h a with
        | some kvs => .ok (.int kvs.length) h
        | none => .stk
  | .abs, [.int i], h => .ok (.int (if i < 0 then -i else i)) h
  | .int, [.int i], h => .ok (.int i) h
  | .int, [.bl b], h => .ok (.int (if b then 1 else 0)) h
  | .list, [a], h => match seqOf h a with
    | some ds => newL ds h
    | none => .stk
  | .tuple, [.tup ds], h => .ok (.tup ds) h
  | .tuple, [a], h => match lstOf h a with
    | some ds => .ok (.tup ds) h
    | none => .stk
  | .isi t, [a], h => bool? (isTy h a t) h
  | .max2, [.int i, .int j], h => .ok (.int (if j > i then j else i)) h
  | .min2, [.int i, .int j], h => .ok (.int (if j < i then j else i)) h
  | .all, [a], h => match lstOf h a with
    | some ds => (match bools ds with
      | some bs => .ok (.bl (bs.all id)) h
      | none => .stk)
    | none => .stk
  | .any, [a], h => match lstOf h a with
    | some ds => (match bools ds with
      | some bs => .ok (.bl (bs.any id)) h
      | none => .stk)
    | none => .stk
  | .sum, [a], h => match lstOf h a with
    | some ds => (match intsD ds with
      | some is => .ok (.int is.sum) h
      | none => .stk)
    | none => .stk
  | .maxd, [a, .int d], h => match lstOf h a with
    | some ds => (match intsD ds with
      | some is => .ok (.int (mxd d is)) h
      | none => .stk)
    | none => .stk
  | _, _, _ => .stk

/-- methods of built-in types; what the receiver is -/
inductive Mid where
  | append | extend | pop | popAt | clear | reverse | get1 | get2 | setd | pop2
  deriving DecidableEq
inductive Rk where
  | l | d | s
  deriving DecidableEq
/-- the model's name of a method -/
def midId : Mid → Rk → Option String
  | .append, .l => some "list.append"
  | .extend, .l => some "list.extend"
  | .pop, .l => some "list.pop"
  | .popAt, .l => some "list.pop"
  | .clear, .l => some "list.clear"
  | .reverse, .l => some "list.reverse"
  | .clear, .d => some "dict.clear"
  | .get1, .d => some "dict.get"
  | .get2, .d => some "dict.get"
  | .setd, .d => some "dict.setdefault"
  | .popAt, .d => some "dict.pop"
  | .pop2, .d => some "dict.pop"
  | _, _ => none
def rkOf (h : PH) : D → Option Rk
  | .str _ => some .s
  | .ref l => match h[l]? with
    | some (.lst _) => some .l
    | some (.dct _) => some .d
    | some (.tdc _) => some .d
    | _ => none
  | _ => none
def metL : Mid → Nat → List D → PH → Res D
  | .append, l, [d], h => match h[l]? with
    | some (.lst ds) => if ds.length < mx then .ok .non (h.set l (.lst (ds ++ [d]))) else .stk
    | _ => .stk
  | .extend, l, [.ref m], h => match h[l]?, h[m]? with
    | some (.lst ds), some (.lst es) => if ds.length + es.length ≤ mx then .ok .non (h.set l (.lst (ds ++ es))) else .stk
    | _, _ => .stk
  | .pop, l, [], h => match h[l]? with
    | some (.lst ds) => (match ds[ds.length - 1]? with
      | some d => .ok d (h.set l (.lst ds.dropLast))
      | none => .stk)
    | _ => .stk
  | .popAt, l, [.int i], h => match h[l]? with
    | some (.lst ds) => (match place ds.length i with
      | some j => (match ds[j]? with
        | some d => .ok d (h.set l (.lst (ds.eraseIdx j)))
        | none => .stk)
      | none => .stk)
    | _ => .stk
  | .clear, l, [], h => match h[l]? with
    | some (.lst ds) => .ok .non (h.set l (.lst []))
    | _ => .stk
  | .reverse, l, [], h => match h[l]? with
    | some (.lst ds) => .ok .non (h.set l (.lst ds.reverse))
    | _ => .stk
  | _, _, _, _ => .stk
/-- a dict with a key stored -/
def dput (h : PH) (l : Nat) (i v : D) : Option PH := match h[l]? with
  | some (.dct kvs) => match keyOf i with
    | some k => if kvs.length < mx then some (h.set l (.dct (put k v kvs))) else none
    | none => match kvs, keyT i with
      | [], some k => some (h.set l (.tdc [(k, v)]))
      | _, _ => none
  | some (.tdc kvs) => match keyT i with
    | some k => if kvs.length < mx then some (h.set l (.tdc (put k v kvs))) else none
    | none => none
  | _ => none
def drop (k : D) (kvs : List (D × D)) : List (D × D) := kvs.filter fun kv => !decide (kv.1 = k)
/-- a dict without a key -/
def ddrop (h : PH) (l : Nat) (i : D) : Option PH := match h[l]? with
  | some (.dct kvs) => match keyOf i with
    | some k => some (h.set l (.dct (drop k kvs)))
    | none => none
  | some (.tdc kvs) => match keyT i with
    | some k => some (h.set l (.tdc (drop k kvs)))
    | none => none
  | _ => none
def metD : Mid → Nat → List D → PH → Res D
  | .clear, l, [], h => match h[l]? with
    | some (.dct _) => .ok .non (h.set l (.dct []))
    | some (.tdc _) => .ok .non (h.set l (.tdc []))
    | _ => .stk
  | .get1, l, [k], h => match dget h (.ref l) k with
    | some o => .ok (o.getD .non) h
    | none => .stk
  | .get2, l, [k, d], h => match dget h (.ref l) k with
    | some o => .ok (o.getD d) h
    | none => .stk
  | .setd, l, [k, v], h => match dget h (.ref l) k, dput h l k v with
    | some (some d), some _ => .ok d h
    | some none, some h' => .ok v h'
    | _, _ => .stk
  | .popAt, l, [k], h => match dget h (.ref l) k with
    | some (some d) => match ddrop h l k with
      | some h' => .ok d h'
      | none => .stk
    | _ => .stk
  | .pop2, l, [k, v], h => match dget h (.ref l) k with
    | some (some d) => match ddrop h l k with
      | some h' => .ok d h'
      | none => .stk
    | some none => .ok v h
    | none => .stk
  | _, _, _, _ => .stk
def met (m : Mid) : Rk → D → List D → PH → Res D
  | .l, .ref l, xs, h => metL m l xs h
  | .d, .ref l, xs, h => metD m l xs h
  | _, _, _, _ => .stk

mutual
inductive Ex where
  | stk | var (i : Nat) | cst (d : D)
  | bin (o : Bop) (a b : Ex) | neg (a : Ex)
  | cmp (o : Cop) (a b : Ex) | chain (o p : Cop) (a b c : Ex)
  | and (a b : Ex) | or (a b : Ex) | not (a : Ex) | ite (c a b : Ex)
  | tup (es : Exs) | lst (es : Exs) | dct (ks vs : Exs)
  | ix (a b : Ex) | sl (a : Ex) (lo hi : Opt)
  | call (f : Nat) (es : Exs) (ds : List D)
  | cdct (kvs : List (Str × D)) (e : Ex)
  | callv (i : Nat) (es : Exs) | rev (a : Ex)
  | bfn (b : Bif) (es : Exs)
  | met (m : Mid) (o : Ex) (es : Exs)
  | fld (o : Ex) (f : Str)
  | umt (o : Ex) (m : Str) (es : Exs)
  | mk (c : Nat) (es : Exs)
  | lc (e : Ex) (t : Tg) (i : Iw) (cs : Exs) (own : List Nat)
inductive Exs where
  | nil | cons (e : Ex) (es : Exs)
inductive Opt where
  | no | yes (e : Ex)
inductive Tg where
  | stk | name (i : Nat) | tup (ts : Tgs) | sub (o i : Ex)
inductive Tgs where
  | nil | cons (t : Tg) (ts : Tgs)
inductive Iw where
  | stk | seq (e : Ex) | rng1 (e : Ex) | rng2 (e f : Ex) | enum (e : Ex) | zip (e f : Ex)
end

/-- the defs' meaning at one level less; C: a class's __init__ and methods -/
structure Fns where
  call : Nat → List D → PH → Res D
  /-- the number of the __init__ of a class -/
  ini : Nat → Option Nat
  /-- the def that is a class's method -/
  mth : Nat → Str → Option Nat
  /-- a plain attribute of a class's instances -/
  fld : Nat → Str → Bool
  /-- it is the number of a def -/
  has : Nat → Bool

def putF (f : Str) (v : D) : List (Str × D) → List (Str × D)
  | [] => [(f, v)]
  | (g, u) :: r => if g = f then (g, v) :: r else (g, u) :: putF f v r

/-- o[i] = v -/
def setop (o i v : D) (h : PH) : Res Unit := match o with
  | .ref l => (match h[l]? with
    | some (.lst ds) => (match i with
      | .int i => (match place ds.length i with
        | some j => .ok () (h.set l (.lst (ds.set j v)))
        | none => .stk)
      | _ => .stk)
    | _ => match dput h l i v with
      | some h' => .ok () h'
      | none => .stk)
  | _ => .stk
def fldop (F : Fns) (o : D) (f : Str) (h : PH) : Res D := match o with
  | .ref l => (match h[l]? with
    | some (.ins c fs) => (match F.fld c f, fs.lookup f with
      | true, some d => .ok d h
      | _, _ => .stk)
    | _ => .stk)
  | _ => .stk
def sfldop (F : Fns) (o : D) (f : Str) (v : D) (h : PH) : Res Unit := match o with
  | .ref l => (match h[l]? with
    | some (.ins c fs) => if fs.length < 1000 ∧ F.fld c f = true then .ok () (h.set l (.ins c (putF f v fs))) else .stk
    | _ => .stk)
  | _ => .stk

/-- what a loop walks: its items; the places of the heap that the body must leave -/
structure Walk where
  items : List D
  keep : List Nat
def locs : D → List Nat
  | .ref l => [l]
  | _ => []
def kept (h h' : PH) (ls : List Nat) : Bool := ls.all fun l => decide (h[l]? = h'[l]?)

def signs (x : Str) : List D := x.cps.toList.map fun c => .str ⟨#[c]⟩
def seqW (h : PH) (a : D) : Res Walk := match a with
  | .str x => .ok ⟨signs x, []⟩ h
  | a => match seqOf h a with
    | some ds => .ok ⟨ds, locs a⟩ h
    | none => .stk
def rngD (lo : Int) (n : Nat) : List D := (List.range n).map fun (k : Nat) => .int (lo + (k : Int))
def rngW (lo hi : Int) (h : PH) : Res Walk := if -(2 ^ 62) ≤ lo ∧ lo < 2 ^ 62 ∧ -(2 ^ 62) ≤ hi ∧ hi < 2 ^ 62 then .ok ⟨rngD lo (hi - lo).toNat, []⟩ h else .stk
def enumD (k : Nat) : List D → List D
  | [] => []
  | d :: ds => .tup [.int k, d] :: enumD (k + 1) ds
def tupOf : D → Option (List D)
  | .tup ds => some ds
  | _ => none
def zipD : List D → List D → List D
  | a :: as, b :: bs => .tup [a, b] :: zipD as bs
  | _, _ => []

/-- what raises is not served there -/
def Res.nx {α : Type} : Res α → Res α
  | .exc _ _ => .stk
  | r => r
/-- forgetting the slots of a comprehension's own names -/
def wipeE (ρ : Env) : List Nat → Env
  | [] => ρ
  | i :: r => (wipeE ρ r).set i none

/-- a comprehension's loop -/
def lcS (turn : D → PH → Res (Option D)) (g : PH → Bool) : List D → List D → PH → Res (List D)
  | [], acc, h => .ok acc h
  | x :: xs, acc, h => match turn x h with
    | .ok (some d) h' => if g h' ∧ acc.length < mx then lcS turn g xs (acc ++ [d]) h' else .stk
    | .ok none h' => if g h' then lcS turn g xs acc h' else .stk
    | .exc _ _ => .stk
    | .stk => .stk

section
variable (F : Fns)
mutual
def evE : Ex → Env → PH → Res D
  | .stk, _, _ => .stk
  | .var i, ρ, h => match ρ[i]? with
    | some (some d) => .ok d h
    | _ => .stk
  | .cst d, _, h => .ok d h
  | .bin o a b, ρ, h => (evE a ρ h).bind fun x h => (evE b ρ h).bind fun y h => binop o x y h
  | .neg a, ρ, h => (evE a ρ h).bind fun x h => match x with
    | .int i => .ok (.int (-i)) h
    | _ => .stk
  | .cmp o a b, ρ, h => (evE a ρ h).bind fun x h => (evE b ρ h).bind fun y h => cmpop o x y h
  | .chain o p a b c, ρ, h => (evE a ρ h).bind fun x h => (evE b ρ h).bind fun y h => (cmpop o x y h).bind fun r h => match r with
    | .bl true => (evE c ρ h).bind fun z h => cmpop p y z h
    | .bl false => .ok (.bl false) h
    | _ => .stk
  | .and a b, ρ, h => (evE a ρ h).bind fun x h => match tru h x with
    | some true => evE b ρ h
    | some false => .ok x h
    | none => .stk
  | .or a b, ρ, h => (evE a ρ h).bind fun x h => match tru h x with
    | some true => .ok x h
    | some false => evE b ρ h
    | none => .stk
  | .not a, ρ, h => (evE a ρ h).bind fun x h => match tru h x with
    | some b => .ok (.bl (!b)) h
    | none => .stk
  | .ite c a b, ρ, h => (evE c ρ h).bind fun x h => match tru h x with
    | some true => evE a ρ h
    | some false => evE b ρ h
    | none => .stk
  | .tup es, ρ, h => (evEs es ρ h).bind fun xs h => if xs.length ≤ mx then .ok (.tup xs) h else .stk
  | .lst es, ρ, h => (evEs es ρ h).bind fun xs h => if xs.length ≤ mx then newL xs h else .stk
  | .dct .nil .nil, _, h => .ok (.ref h.length) (h ++ [.dct []])
  | .dct _ _, _, _ => .stk
  | .ix a b, ρ, h => (evE a ρ h).bind fun x h => (evE b ρ h).bind fun y h => ixop x y h
  | .sl a lo hi, ρ, h => (evE a ρ h).bind fun x h => (evO lo ρ h).bind fun l h => (evO hi ρ h).bind fun u h => slop x l u h
  | .call f es ds, ρ, h => (evEs es ρ h).bind fun xs h => F.call f (xs ++ ds) h
  | .cdct kvs e, ρ, h => (evE e ρ h).bind fun x h => match x with
    | .str z => .ok ((kvs.lookup z).getD .non) h
    | _ => .stk
  | .callv i es, ρ, h => match ρ[i]? with
    | some (some (.fn k)) => if F.has k = true then (evEs es ρ h).bind fun xs h => F.call k xs h else .stk
    | _ => .stk
  | .rev a, ρ, h => (evE a ρ h).bind fun x h => match lstOf h x with
    | some ds => newL ds.reverse h
    | none => .stk
  | .bfn b es, ρ, h => (evEs es ρ h).bind fun xs h => bfn b xs h
  | .met m o es, ρ, h => (evE o ρ h).bind fun x h => match rkOf h x with
    | some k => if (midId m k).isSome = true then (evEs es ρ h).bind fun xs h => met m k x xs h else .stk
    | none => .stk
  | .fld o f, ρ, h => (evE o ρ h).bind fun x h => fldop F x f h
  | .umt o m es, ρ, h => (evE o ρ h).bind fun x h => match x with
    | .ref l => (match h[l]? with
      | some (.ins c fs) => (match F.mth c m, fs.lookup m with
        | some f, none => (evEs es ρ h).bind fun xs h => F.call f (x :: xs) h
        | _, _ => .stk)
      | _ => .stk)
    | _ => .stk
  | .mk c es, ρ, h => (evEs es ρ h).bind fun xs h => match F.ini c with
    | some f => (F.call f (.ref h.length :: xs) (h ++ [.ins c []])).bind fun r h' => if r = .non then .ok (.ref h.length) h' else .stk
    | none => .stk
  | .lc e t i cs own, ρ, h => (evI i ρ h).bind fun w h =>
      (lcS (fun x h => (evT t x (wipeE ρ own) h).bind fun ρ' h => (evC cs ρ' h).bind fun b h => if b then (evE e ρ' h).bind fun d h => .ok (some d) h else .ok none h) (fun h' => kept h h' w.keep) w.items [] h).bind fun ds h => newL ds h
def evO : Opt → Env → PH → Res (Option Int)
  | .no, _, h => .ok none h
  | .yes e, ρ, h => (evE e ρ h).bind fun x h => match x with
    | .int i => .ok (some i) h
    | _ => .stk
def evEs : Exs → Env → PH → Res (List D)
  | .nil, _, h => .ok [] h
  | .cons e es, ρ, h => (evE e ρ h).bind fun x h => (evEs es ρ h).bind fun xs h => .ok (x :: xs) h
/-- the tests of a comprehension: none or one -/
def evC : Exs → Env → PH → Res Bool
  | .nil, _, h => .ok true h
  | .cons e .nil, ρ, h => (evE e ρ h).bind fun x h => match tru h x with
    | some b => .ok b h
    | none => .stk
  | _, _, _ => .stk
def evT : Tg → D → Env → PH → Res Env
  | .stk, _, _, _ => .stk
  | .name i, d, ρ, h => .ok (ρ.set i (some d)) h
  | .tup ts, d, ρ, h => match seqOf h d with
    | some ds => evTs ts ds ρ h
    | none => .stk
  | .sub o i, d, ρ, h => (evE o ρ h).nx.bind fun x h => (evE i ρ h).nx.bind fun y h => (setop x y d h).bind fun _ h => .ok ρ h
def evTs : Tgs → List D → Env → PH → Res Env
  | .nil, [], ρ, h => .ok ρ h
  | .cons t ts, d :: ds, ρ, h => (evT t d ρ h).bind fun ρ h => evTs ts ds ρ h
  | _, _, _, _ => .stk
def evI : Iw → Env → PH → Res Walk
  | .stk, _, _ => .stk
  | .seq e, ρ, h => (evE e ρ h).bind fun x h => seqW h x
  | .rng1 e, ρ, h => (evE e ρ h).bind fun x h => match x with
    | .int j => rngW 0 j h
    | _ => .stk
  | .rng2 e f, ρ, h => (evE e ρ h).bind fun x h => (evE f ρ h).bind fun y h => match x, y with
    | .int i, .int j => rngW i j h
    | _, _ => .stk
  | .enum e, ρ, h => (evE e ρ h).bind fun x h => match lstOf h x with
    | some ds => .ok ⟨enumD 0 ds, locs x⟩ h
    | none => .stk
  | .zip e f, ρ, h => (evE e ρ h).bind fun x h => (evE f ρ h).bind fun y h => match tupOf x, tupOf y with
    | some ds, some es => .ok ⟨zipD ds es, []⟩ h
    | _, _ => match lstOf h x, lstOf h y with
    | some ds, some es => .ok ⟨zipD ds es, locs x ++ locs y⟩ h
    | _, _ => .stk
end
/-- a test -/
def evB (e : Ex) (ρ : Env) (h : PH) : Res Bool := (evE F e ρ h).bind fun x h => match tru h x with
  | some b => .ok b h
  | none => .stk
end

/-! ### statements -/
mutual
inductive St where
  | stk | pass | asg (t : Tg) (e : Ex) | sfd (o : Ex) (f : Str) (e : Ex) | par (i j : Nat) (a b : Ex) | aug (i : Nat) (o : Bop) (e : Ex)
  | ex (e : Ex) | ret (e : Ex) | retN | ife (c : Ex) (a b : Ss) | whl (c : Ex) (b : Ss) | for_ (t : Tg) (i : Iw) (b : Ss) | brk | cnt | thru (b : Ss)
inductive Ss where
  | nil | cons (s : St) (r : Ss)
end
inductive SRes where
  | nx (ρ : Env) (h : PH) | rt (d : D) (h : PH) | bk (ρ : Env) (h : PH) | ct (ρ : Env) (h : PH) | ex (c : Nat) (ρ : Env) (h : PH) | stk
/-- an expression's answer, then f; ρ: the slots where it is raised -/
def Res.sb {α : Type} (ρ : Env) (r : Res α) (f : α → PH → SRes) : SRes := match r with
  | .ok a h => f a h
  | .exc c h => .ex c ρ h
  | .stk => .stk
def SRes.sq (r : SRes) (f : Env → PH → SRes) : SRes := match r with
  | .nx ρ h => f ρ h
  | r => r
/-- nothing is raised -/
def SRes.quiet (r : SRes) : SRes := match r with
  | .ex _ _ _ => .stk
  | r => r
def forS (turn : D → Env → PH → SRes) (g : PH → Bool) : List D → Env → PH → SRes
  | [], ρ, h => .nx ρ h
  | x :: xs, ρ, h => match turn x ρ h with
    | .nx ρ' h' => if g h' then forS turn g xs ρ' h' else .stk
    | .ct ρ' h' => if g h' then forS turn g xs ρ' h' else .stk
    | .bk ρ' h' => .nx ρ' h'
    | r => r
def whlS (c : Env → PH → Res Bool) (b : Env → PH → SRes) : Nat → Env → PH → SRes
  | 0, _, _ => .stk
  | n + 1, ρ, h => (c ρ h).sb ρ fun k h => if k = true then (match b ρ h with
      | .nx ρ' h' => whlS c b n ρ' h'
      | .ct ρ' h' => whlS c b n ρ' h'
      | .bk ρ' h' => .nx ρ' h'
      | r => r) else .nx ρ h
/-- the most turns of a while -/
def wlim : Nat := 1000000
def augop : Bop → D → D → Option D
  | .add, .int i, .int j => some (.int (i + j))
  | .sub, .int i, .int j => some (.int (i - j))
  | .add, .str x, .str y => if x.length + y.length ≤ mx then some (.str (x ++ y)) else none
  | _, _, _ => none
section
variable (F : Fns)
mutual
def evS : St → Env → PH → SRes
  | .stk, _, _ => .stk
  | .pass, ρ, h => .nx ρ h
  | .asg t e, ρ, h => (evE F e ρ h).sb ρ fun d h => (evT F t d ρ h).nx.sb ρ fun ρ h => .nx ρ h
  | .sfd o f e, ρ, h => (evE F e ρ h).sb ρ fun d h => (evE F o ρ h).sb ρ fun x h => (sfldop F x f d h).sb ρ fun _ h => .nx ρ h
  | .par i j a b, ρ, h => (evE F a ρ h).sb ρ fun x h => (evE F b ρ h).sb ρ fun y h => .nx ((ρ.set i (some x)).set j (some y)) h
  | .aug i o e, ρ, h => match ρ[i]? with
    | some (some x) => (evE F e ρ h).sb ρ fun y h => match augop o x y with
      | some z => .nx (ρ.set i (some z)) h
      | none => .stk
    | _ => .stk
  | .ex e, ρ, h => (evE F e ρ h).sb ρ fun _ h => .nx ρ h
  | .ret e, ρ, h => (evE F e ρ h).sb ρ fun d h => .rt d h
  | .retN, _, h => .rt .non h
  | .ife c a b, ρ, h => (evB F c ρ h).sb ρ fun k h => if k = true then evSs a ρ h else evSs b ρ h
  | .whl c b, ρ, h => whlS (evB F c) (evSs b) wlim ρ h
  | .for_ t i b, ρ, h => (evI F i ρ h).sb ρ fun w h => forS (fun x ρ h' => (evT F t x ρ h').nx.sb ρ fun ρ h' => evSs b ρ h') (fun h' => kept h h' w.keep) w.items ρ h
  | .brk, ρ, h => .bk ρ h
  | .cnt, ρ, h => .ct ρ h
  | .thru b, ρ, h => (evSs b ρ h).quiet
def evSs : Ss → Env → PH → SRes
  | .nil, ρ, h => .nx ρ h
  | .cons s r, ρ, h => (evS s ρ h).sq (evSs r)
end
end

/-- a def: how many parameters, how many slots, its body -/
structure Fd where
  np : Nat
  nl : Nat
  body : Ss
def startE (nl : Nat) (args : List D) : Env := args.map some ++ List.replicate (nl - args.length) none
def SRes.fin : SRes → Res D
  | .nx _ h => .ok .non h
  | .rt d h => .ok d h
  | .ex c _ h => .exc c h
  | _ => .stk
/-- the text's defs; their meaning to so many levels -/
structure Tb where
  fds : List Fd
  ini : Nat → Option Nat
  mth : Nat → Str → Option Nat
  fld : Nat → Str → Bool
def Tb.fns (T : Tb) : Nat → Fns
  | 0 => ⟨fun _ _ _ => .stk, T.ini, T.mth, T.fld, fun k => decide (k < T.fds.length)⟩
  | n + 1 => ⟨fun k args h => match T.fds[k]? with
      | some fd => if args.length = fd.np then (evSs (T.fns n) fd.body (startE fd.nl args) h).fin else .stk
      | none => .stk, T.ini, T.mth, T.fld, fun k => decide (k < T.fds.length)⟩
/-- a class: its name, its __init__, its methods, its instances' attributes -/
structure CD where
  name : Str
  ini : Option Nat
  mths : List (Str × Nat)
  flds : List Str
/-- the table of a text: its defs, its classes -/
def mkTb (fds : List Fd) (cl : List CD) : Tb := ⟨fds, fun c => (cl[c]?).bind (·.ini), fun c m => (cl[c]?).bind fun d => d.mths.lookup m, fun c f => match cl[c]? with
  | some d => d.flds.contains f
  | none => false⟩
theorem run_of {T : Tb} {k n : Nat} {args : List D} {h : PH} {fd : Fd} (e : T.fds[k]? = some fd) (l : args.length = fd.np) : (T.fns (n + 1)).call k args h = (evSs (T.fns n) fd.body (startE fd.nl args) h).fin := by
  show (match T.fds[k]? with
    | some fd => if args.length = fd.np then (evSs (T.fns n) fd.body (startE fd.nl args) h).fin else .stk
    | none => .stk) = _
  rw [e]
  show (if args.length = fd.np then (evSs (T.fns n) fd.body (startE fd.nl args) h).fin else .stk) = _
  rw [if_pos l]
end Mp

set_option Elab.async false
set_option linter.all false
set_option maxRecDepth 100000
/-! W1: weakest preconditions over the interpreter: rewriting rules and the rules of loops. -/
namespace Mp
open PySem (Str)
def Res.W {α : Type} (r : Res α) (P : α → PH → Prop) (X : Nat → PH → Prop) : Prop := match r with
  | .ok a h => P a h
  | .exc c h => X c h
  | .stk => False
def SRes.W (r : SRes) (N : Env → PH → Prop) (R : D → PH → Prop) (B C : Env → PH → Prop) (X : Nat → Env → PH → Prop) : Prop := match r with
  | .nx ρ h => N ρ h
  | .rt d h => R d h
  | .bk ρ h => B ρ h
  | .ct ρ h => C ρ h
  | .ex c ρ h => X c ρ h
  | .stk => False
end Mp
namespace Mp.Wp
open PySem (Str)
section
variable {α β : Type} {P : α → PH → Prop} {PB : β → PH → Prop} {X : Nat → PH → Prop} {N B C : Env → PH → Prop} {R : D → PH → Prop} {XS : Nat → Env → PH → Prop} {h : PH} {ρ : Env}
theorem W_ok {a : α} : (Res.ok a h).W P X = P a h := rfl
theorem W_exc {c : Nat} : (Res.exc c h : Res α).W P X = X c h := rfl
theorem W_stk : (Res.stk : Res α).W P X = False := rfl
theorem W_bind {r : Res α} {f : α → PH → Res β} : (r.bind f).W PB X = r.W (fun a h => (f a h).W PB X) X := by cases r <;> rfl
theorem W_mono {r : Res α} {P' : α → PH → Prop} {X' : Nat → PH → Prop} (w : r.W P X) (hp : ∀ a h, P a h → P' a h) (hx : ∀ c h, X c h → X' c h) : r.W P' X' := by
  cases r with
  | ok a h => exact hp _ _ w
  | exc c h => exact hx _ _ w
  | stk => exact w
theorem W_sb {r : Res α} {f : α → PH → SRes} : (r.sb ρ f).W N R B C XS = r.W (fun a h => (f a h).W N R B C XS) (fun c h => XS c ρ h) := by cases r <;> rfl
theorem W_sq {r : SRes} {f : Env → PH → SRes} : (r.sq f).W N R B C XS = r.W (fun ρ h => (f ρ h).W N R B C XS) R B C XS := by cases r <;> rfl
theorem W_fin {r : SRes} {R : D → PH → Prop} : r.fin.W R X = r.W (fun _ h => R .non h) R (fun _ _ => False) (fun _ _ => False) (fun c _ h => X c h) := by cases r <;> rfl
theorem W_nx' {r : Res α} : r.nx.W P X = r.W P (fun _ _ => False) := by cases r <;> rfl
theorem W_nx : (SRes.nx ρ h).W N R B C XS = N ρ h := rfl
theorem W_rt {d : D} : (SRes.rt d h).W N R B C XS = R d h := rfl
theorem W_bk : (SRes.bk ρ h).W N R B C XS = B ρ h := rfl
theorem W_ct : (SRes.ct ρ h).W N R B C XS = C ρ h := rfl
theorem W_ex {c : Nat} : (SRes.ex c ρ h).W N R B C XS = XS c ρ h := rfl
theorem W_sstk : SRes.stk.W N R B C XS = False := rfl
theorem SW_mono {r : SRes} {N' B' C' : Env → PH → Prop} {R' : D → PH → Prop} {XS' : Nat → Env → PH → Prop} (w : r.W N R B C XS) (hn : ∀ ρ h, N ρ h → N' ρ h) (hr : ∀ d h, R d h → R' d h) (hb : ∀ ρ h, B ρ h → B' ρ h) (hc : ∀ ρ h, C ρ h → C' ρ h) (hx : ∀ c ρ h, XS c ρ h → XS' c ρ h) : r.W N' R' B' C' XS' := by
  cases r with
  | nx ρ h => exact hn _ _ w
  | rt d h => exact hr _ _ w
  | bk ρ h => exact hb _ _ w
  | ct ρ h => exact hc _ _ w
  | ex c ρ h => exact hx _ _ _ w
  | stk => exact w
end
section
variable {F : Fns} {P : D → PH → Prop} {X : Nat → PH → Prop} {N B C : Env → PH → Prop} {R : D → PH → Prop} {XS : Nat → Env → PH → Prop} {h : PH} {ρ : Env} {e a b c o : Ex} {es : Exs}
theorem e_cst {d : D} : (evE F (.cst d) ρ h).W P X = P d h := rfl
theorem e_var {i : Nat} : (evE F (.var i) ρ h).W P X = (match ρ[i]? with | some (some d) => P d h | _ => False) := by
  show (match ρ[i]? with | some (some d) => Res.ok d h | _ => .stk).W P X = _
  split <;> rfl
theorem e_bin {o : Bop} : (evE F (.bin o a b) ρ h).W P X = (evE F a ρ h).W (fun x h => (evE F b ρ h).W (fun y h => (binop o x y h).W P X) X) X := by
  show (Res.bind _ _).W P X = _
  simp only [W_bind]
theorem e_neg : (evE F (.neg a) ρ h).W P X = (evE F a ρ h).W (fun x h => match x with | .int i => P (.int (-i)) h | _ => False) X := by
  show (Res.bind _ _).W P X = _
  rw [W_bind]; congr; funext x h; cases x <;> rfl
theorem e_cmp {o : Cop} : (evE F (.cmp o a b) ρ h).W P X = (evE F a ρ h).W (fun x h => (evE F b ρ h).W (fun y h => (cmpop o x y h).W P X) X) X := by
  show (Res.bind _ _).W P X = _
  simp only [W_bind]
def chainW (F : Fns) (c : Ex) (p : Cop) (y : D) (ρ : Env) (P : D → PH → Prop) (X : Nat → PH → Prop) (r : D) (h : PH) : Prop := match r with
  | .bl true => (evE F c ρ h).W (fun z h => (cmpop p y z h).W P X) X
  | .bl false => P (.bl false) h
  | _ => False
theorem e_chain {o p : Cop} : (evE F (.chain o p a b c) ρ h).W P X = (evE F a ρ h).W (fun x h => (evE F b ρ h).W (fun y h => (cmpop o x y h).W (fun r h => chainW F c p y ρ P X r h) X) X) X := by
  show (Res.bind _ _).W P X = _
  simp only [W_bind]
  congr; funext x h; congr; funext y h; congr; funext r h
  cases r with
  | bl b => cases b with
    | true => exact W_bind
    | false => rfl
  | _ => rfl
theorem chain_bl {p : Cop} {y : D} {k : Bool} : chainW F c p y ρ P X (.bl k) h = if k = true then (evE F c ρ h).W (fun z h => (cmpop p y z h).W P X) X else P (.bl false) h := by cases k <;> simp [chainW]
/-- by truth -/
def byT (h : PH) (x : D) (t f : Prop) : Prop := match tru h x with
  | some true => t
  | some false => f
  | none => False
theorem byT_bl {k : Bool} {t f : Prop} : byT h (.bl k) t f = if k = true then t else f := by cases k <;> simp [byT, tru]
theorem e_and : (evE F (.and a b) ρ h).W P X = (evE F a ρ h).W (fun x h => byT h x ((evE F b ρ h).W P X) (P x h)) X := by
  show (Res.bind _ _).W P X = _
  rw [W_bind]; congr; funext x h; unfold byT
  split <;> simp [*, W_ok, W_stk]
theorem e_or : (evE F (.or a b) ρ h).W P X = (evE F a ρ h).W (fun x h => byT h x (P x h) ((evE F b ρ h).W P X)) X := by
  show (Res.bind _ _).W P X = _
  rw [W_bind]; congr; funext x h; unfold byT
  split <;> simp [*, W_ok, W_stk]
theorem e_not : (evE F (.not a) ρ h).W P X = (evE F a ρ h).W (fun x h => byT h x (P (.bl false) h) (P (.bl true) h)) X := by
  show (Res.bind _ _).W P X = _
  rw [W_bind]; congr; funext x h; unfold byT
  split
  · rename_i b e; cases b <;> simp [e, W_ok]
  · rename_i e; simp [e, W_stk]
theorem e_ite : (evE F (.ite c a b) ρ h).W P X = (evE F c ρ h).W (fun x h => byT h x ((evE F a ρ h).W P X) ((evE F b ρ h).W P X)) X := by
  show (Res.bind _ _).W P X = _
  rw [W_bind]; congr; funext x h; unfold byT
  split <;> simp [*, W_stk]
theorem e_tup : (evE F (.tup es) ρ h).W P X = (evEs F es ρ h).W (fun xs h => xs.length ≤ mx ∧ P (.tup xs) h) X := by
  show (Res.bind _ _).W P X = _
  rw [W_bind]; congr; funext xs h; split <;> simp [*, W_ok, W_stk]
theorem e_lst : (evE F (.lst es) ρ h).W P X = (evEs F es ρ h).W (fun xs h => xs.length ≤ mx ∧ P (.ref h.length) (h ++ [.lst xs])) X := by
  show (Res.bind _ _).W P X = _
  rw [W_bind]; congr; funext xs h; split <;> simp [*, W_ok, W_stk, newL]
theorem e_dct0 : (evE F (.dct .nil .nil) ρ h).W P X = P (.ref h.length) (h ++ [.dct []]) := rfl
theorem e_ix : (evE F (.ix a b) ρ h).W P X = (evE F a ρ h).W (fun x h => (evE F b ρ h).W (fun y h => (ixop x y h).W P X) X) X := by
  show (Res.bind _ _).W P X = _
  simp only [W_bind]
theorem e_sl {lo hi : Opt} : (evE F (.sl a lo hi) ρ h).W P X = (evE F a ρ h).W (fun x h => (evO F lo ρ h).W (fun l h => (evO F hi ρ h).W (fun u h => (slop x l u h).W P X) X) X) X := by
  show (Res.bind _ _).W P X = _
  simp only [W_bind]
theorem o_no {P : Option Int → PH → Prop} : (evO F .no ρ h).W P X = P none h := rfl
theorem o_yes {P : Option Int → PH → Prop} : (evO F (.yes e) ρ h).W P X = (evE F e ρ h).W (fun x h => match x with | .int i => P (some i) h | _ => False) X := by
  show (Res.bind _ _).W P X = _
  rw [W_bind]; congr; funext x h; cases x <;> rfl
theorem es_nil {P : List D → PH → Prop} : (evEs F .nil ρ h).W P X = P [] h := rfl
theorem es_cons {P : List D → PH → Prop} : (evEs F (.cons e es) ρ h).W P X = (evE F e ρ h).W (fun x h => (evEs F es ρ h).W (fun xs h => P (x :: xs) h) X) X := by
  show (Res.bind _ _).W P X = _
  rw [W_bind]; congr; funext x h
  show (Res.bind _ _).W P X = _
  rw [W_bind]; rfl
theorem e_call {f : Nat} {ds : List D} : (evE F (.call f es ds) ρ h).W P X = (evEs F es ρ h).W (fun xs h => (F.call f (xs ++ ds) h).W P X) X := by
  show (Res.bind _ _).W P X = _
  rw [W_bind]
theorem e_bfn {f : Bif} : (evE F (.bfn f es) ρ h).W P X = (evEs F es ρ h).W (fun xs h => (bfn f xs h).W P X) X := by
  show (Res.bind _ _).W P X = _
  rw [W_bind]
def metW (F : Fns) (m : Mid) (es : Exs) (ρ : Env) (P : D → PH → Prop) (X : Nat → PH → Prop) (x : D) (h : PH) : Prop := match rkOf h x with
  | some k => (midId m k).isSome = true ∧ (evEs F es ρ h).W (fun xs h => (met m k x xs h).W P X) X
  | none => False
theorem e_met {m : Mid} : (evE F (.met m o es) ρ h).W P X = (evE F o ρ h).W (fun x h => metW F m es ρ P X x h) X := by
  show (Res.bind _ _).W P X = _
  rw [W_bind]; congr; funext x h; unfold metW
  show Res.W (match rkOf h x with
    | some k => if (midId m k).isSome = true then (evEs F es ρ h).bind fun xs h => met m k x xs h else .stk
    | none => .stk) P X = _
  cases rkOf h x with
  | none => rfl
  | some k =>
    show Res.W (if (midId m k).isSome = true then (evEs F es ρ h).bind fun xs h => met m k x xs h else .stk) P X = ((midId m k).isSome = true ∧ _)
    split
    · rename_i e2; simp [e2, W_bind]
    · rename_i e2; simp [e2, W_stk]
theorem i_seq {P : Walk → PH → Prop} : (evI F (.seq e) ρ h).W P X = (evE F e ρ h).W (fun x h => (seqW h x).W P X) X := by
  show (Res.bind _ _).W P X = _
  rw [W_bind]
theorem i_enum {P : Walk → PH → Prop} : (evI F (.enum e) ρ h).W P X = (evE F e ρ h).W (fun x h => match lstOf h x with | some ds => P ⟨enumD 0 ds, locs x⟩ h | none => False) X := by
  show (Res.bind _ _).W P X = _
  rw [W_bind]; congr; funext x h; split <;> simp [*, W_ok, W_stk]
theorem i_zip {P : Walk → PH → Prop} : (evI F (.zip e a) ρ h).W P X = (evE F e ρ h).W (fun x h => (evE F a ρ h).W (fun y h => match tupOf x, tupOf y with | some ds, some es => P ⟨zipD ds es, []⟩ h | _, _ => match lstOf h x, lstOf h y with | some ds, some es => P ⟨zipD ds es, locs x ++ locs y⟩ h | _, _ => False) X) X := by
  show (Res.bind _ _).W P X = _
  simp only [W_bind]; congr; funext x h; congr; funext y h; cases tupOf x <;> cases tupOf y <;> cases lstOf h x <;> cases lstOf h y <;> rfl
theorem i_rng1 {P : Walk → PH → Prop} : (evI F (.rng1 e) ρ h).W P X = (evE F e ρ h).W (fun x h => match x with | .int j => (rngW 0 j h).W P X | _ => False) X := by
  show (Res.bind _ _).W P X = _
  rw [W_bind]; congr; funext x h; cases x <;> rfl
theorem i_rng2 {P : Walk → PH → Prop} : (evI F (.rng2 e a) ρ h).W P X = (evE F e ρ h).W (fun x h => (evE F a ρ h).W (fun y h => match x, y with | .int i, .int j => (rngW i j h).W P X | _, _ => False) X) X := by
  show (Res.bind _ _).W P X = _
  simp only [W_bind]; congr; funext x h; congr; funext y h; cases x <;> cases y <;> rfl
theorem rngW_ok {P : Walk → PH → Prop} {lo hi : Int} (h1 : -(2 ^ 62) ≤ lo) (h2 : lo < 2 ^ 62) (h3 : -(2 ^ 62) ≤ hi) (h4 : hi < 2 ^ 62) : (rngW lo hi h).W P X = P ⟨rngD lo (hi - lo).toNat, []⟩ h := by
  unfold rngW; rw [if_pos ⟨h1, h2, h3, h4⟩]; rfl
theorem t_name {P : Env → PH → Prop} {i : Nat} {d : D} : (evT F (.name i) d ρ h).W P X = P (ρ.set i (some d)) h := rfl
theorem t_tup {P : Env → PH → Prop} {ts : Tgs} {d : D} : (evT F (.tup ts) d ρ h).W P X = (match seqOf h d with | some ds => (evTs F ts ds ρ h).W P X | none => False) := by
  show (match seqOf h d with | some ds => evTs F ts ds ρ h | none => .stk).W P X = _
  split <;> rfl
theorem t_sub {P : Env → PH → Prop} {d : D} : (evT F (.sub a b) d ρ h).W P X = (evE F a ρ h).W (fun x h => (evE F b ρ h).W (fun y h => (setop x y d h).W (fun _ h => P ρ h) X) (fun _ _ => False)) (fun _ _ => False) := by
  show (Res.bind _ _).W P X = _
  rw [W_bind, W_nx']
  cases evE F a ρ h with
  | exc c h => rfl
  | stk => rfl
  | ok x h =>
    show (Res.bind _ _).W P X = _
    rw [W_bind, W_nx']
    show (evE F b ρ h).W _ _ = (evE F b ρ h).W _ _
    cases evE F b ρ h with
    | exc c h => rfl
    | stk => rfl
    | ok y h =>
      show (Res.bind _ _).W P X = _
      rw [W_bind]; rfl
theorem ts_nil {P : Env → PH → Prop} : (evTs F .nil [] ρ h).W P X = P ρ h := rfl
theorem ts_cons {P : Env → PH → Prop} {t : Tg} {ts : Tgs} {d : D} {ds : List D} : (evTs F (.cons t ts) (d :: ds) ρ h).W P X = (evT F t d ρ h).W (fun ρ h => (evTs F ts ds ρ h).W P X) X := by
  show (Res.bind _ _).W P X = _
  rw [W_bind]
theorem B_ {P : Bool → PH → Prop} : (evB F e ρ h).W P X = (evE F e ρ h).W (fun x h => byT h x (P true h) (P false h)) X := by
  show (Res.bind _ _).W P X = _
  rw [W_bind]; congr; funext x h; unfold byT
  split
  · rename_i b e; cases b <;> simp [e, W_ok]
  · rename_i e; simp [e, W_stk]
theorem c_nil {P : Bool → PH → Prop} : (evC F .nil ρ h).W P X = P true h := rfl
theorem c_one {P : Bool → PH → Prop} : (evC F (.cons e .nil) ρ h).W P X = (evE F e ρ h).W (fun x h => byT h x (P true h) (P false h)) X := by
  show (Res.bind _ _).W P X = _
  rw [W_bind]; congr; funext x h; unfold byT
  split
  · rename_i b e; cases b <;> simp [e, W_ok]
  · rename_i e; simp [e, W_stk]
/-! statements -/
theorem s_nil : (evSs F .nil ρ h).W N R B C XS = N ρ h := rfl
theorem s_cons {s : St} {r : Ss} : (evSs F (.cons s r) ρ h).W N R B C XS = (evS F s ρ h).W (fun ρ h => (evSs F r ρ h).W N R B C XS) R B C XS := by
  show (SRes.sq _ _).W N R B C XS = _
  rw [W_sq]
theorem s_pass : (evS F .pass ρ h).W N R B C XS = N ρ h := rfl
theorem s_brk : (evS F .brk ρ h).W N R B C XS = B ρ h := rfl
theorem s_cnt : (evS F .cnt ρ h).W N R B C XS = C ρ h := rfl
theorem s_retN : (evS F .retN ρ h).W N R B C XS = R .non h := rfl
theorem s_asgn {i : Nat} : (evS F (.asg (.name i) e) ρ h).W N R B C XS = (evE F e ρ h).W (fun d h => N (ρ.set i (some d)) h) (fun c h => XS c ρ h) := by
  show (Res.sb _ _ _).W N R B C XS = _
  rw [W_sb]; rfl
theorem s_asg {t : Tg} : (evS F (.asg t e) ρ h).W N R B C XS = (evE F e ρ h).W (fun d h => (evT F t d ρ h).W N (fun _ _ => False)) (fun c h => XS c ρ h) := by
  show (Res.sb _ _ _).W N R B C XS = _
  rw [W_sb]; congr; funext d h
  rw [W_sb, W_nx']; rfl
theorem s_ex : (evS F (.ex e) ρ h).W N R B C XS = (evE F e ρ h).W (fun _ h => N ρ h) (fun c h => XS c ρ h) := by
  show (Res.sb _ _ _).W N R B C XS = _
  rw [W_sb]; rfl
theorem s_ret : (evS F (.ret e) ρ h).W N R B C XS = (evE F e ρ h).W R (fun c h => XS c ρ h) := by
  show (Res.sb _ _ _).W N R B C XS = _
  rw [W_sb]; rfl
theorem s_ife {a b : Ss} : (evS F (.ife e a b) ρ h).W N R B C XS = (evE F e ρ h).W (fun x h => byT h x ((evSs F a ρ h).W N R B C XS) ((evSs F b ρ h).W N R B C XS)) (fun c h => XS c ρ h) := by
  show (Res.sb _ _ _).W N R B C XS = _
  rw [W_sb, B_]
  congr
theorem s_aug {i : Nat} {o : Bop} : (evS F (.aug i o e) ρ h).W N R B C XS = (match ρ[i]? with | some (some x) => (evE F e ρ h).W (fun y h => match augop o x y with | some z => N (ρ.set i (some z)) h | none => False) (fun c h => XS c ρ h) | _ => False) := by
  show (match ρ[i]? with
    | some (some x) => (evE F e ρ h).sb ρ fun y h => match augop o x y with
      | some z => SRes.nx (ρ.set i (some z)) h
      | none => .stk
    | _ => .stk).W N R B C XS = _
  split
  · rw [W_sb]; congr; funext y h; split <;> rfl
  · rfl
theorem s_for {t : Tg} {i : Iw} {b : Ss} : (evS F (.for_ t i b) ρ h).W N R B C XS = (evI F i ρ h).W (fun w h => (forS (fun x ρ h' => (evT F t x ρ h').nx.sb ρ fun ρ h' => evSs F b ρ h') (fun h' => kept h h' w.keep) w.items ρ h).W N R B C XS) (fun c h => XS c ρ h) := by
  show (Res.sb _ _ _).W N R B C XS = _
  rw [W_sb]
theorem s_whl {b : Ss} : (evS F (.whl e b) ρ h) = whlS (evB F e) (evSs F b) wlim ρ h := rfl
theorem turn_W {t : Tg} {b : Ss} {x : D} : (((evT F t x ρ h).nx.sb ρ fun ρ h' => evSs F b ρ h')).W N R B C XS = (evT F t x ρ h).W (fun ρ h => (evSs F b ρ h).W N R B C XS) (fun _ _ => False) := by
  rw [W_sb, W_nx']
end
/-! own classes, defs as values -/
section
variable {F : Fns} {P : D → PH → Prop} {X : Nat → PH → Prop} {N B C : Env → PH → Prop} {R : D → PH → Prop} {XS : Nat → Env → PH → Prop} {h : PH} {ρ : Env} {e a b c o : Ex} {es : Exs}
theorem e_callv {i : Nat} : (evE F (.callv i es) ρ h).W P X = (match ρ[i]? with | some (some (.fn k)) => F.has k = true ∧ (evEs F es ρ h).W (fun xs h => (F.call k xs h).W P X) X | _ => False) := by
  show (match ρ[i]? with
    | some (some (.fn k)) => if F.has k = true then (evEs F es ρ h).bind fun xs h => F.call k xs h else Res.stk
    | _ => .stk).W P X = _
  split
  · split
    · rename_i hh; simp [hh, W_bind]
    · rename_i hh; simp [hh, W_stk]
  · rfl
theorem e_rev : (evE F (.rev a) ρ h).W P X = (evE F a ρ h).W (fun x h => match lstOf h x with | some ds => P (.ref h.length) (h ++ [.lst ds.reverse]) | none => False) X := by
  show (Res.bind _ _).W P X = _
  rw [W_bind]; congr; funext x h; split <;> simp [*, W_stk, W_ok, newL]
theorem e_cdct {kvs : List (Str × D)} : (evE F (.cdct kvs e) ρ h).W P X = (evE F e ρ h).W (fun x h => match x with | .str z => P ((kvs.lookup z).getD .non) h | _ => False) X := by
  show (Res.bind _ _).W P X = _
  rw [W_bind]; congr; funext x h; cases x <;> rfl
theorem e_fld {f : Str} : (evE F (.fld o f) ρ h).W P X = (evE F o ρ h).W (fun x h => (fldop F x f h).W P X) X := by
  show (Res.bind _ _).W P X = _
  rw [W_bind]
def umtW (F : Fns) (m : Str) (es : Exs) (ρ : Env) (P : D → PH → Prop) (X : Nat → PH → Prop) (x : D) (h : PH) : Prop := match x with
  | .ref l => (match h[l]? with
    | some (.ins c fs) => (match F.mth c m, fs.lookup m with
      | some f, none => (evEs F es ρ h).W (fun xs h => (F.call f (x :: xs) h).W P X) X
      | _, _ => False)
    | _ => False)
  | _ => False
theorem e_umt {m : Str} : (evE F (.umt o m es) ρ h).W P X = (evE F o ρ h).W (fun x h => umtW F m es ρ P X x h) X := by
  show (Res.bind _ _).W P X = _
  rw [W_bind]; congr; funext x h
  cases x with
  | ref l =>
    show Res.W (match h[l]? with
      | some (.ins c fs) => (match F.mth c m, fs.lookup m with
        | some f, none => (evEs F es ρ h).bind fun xs h => F.call f (.ref l :: xs) h
        | _, _ => .stk)
      | _ => .stk) P X = (match h[l]? with
    | some (.ins c fs) => (match F.mth c m, fs.lookup m with
      | some f, none => (evEs F es ρ h).W (fun xs h => (F.call f (.ref l :: xs) h).W P X) X
      | _, _ => False)
    | _ => False)
    split
    · split
      · rw [W_bind]
      · rfl
    · rfl
  | _ => rfl
theorem e_mk {c : Nat} : (evE F (.mk c es) ρ h).W P X = (evEs F es ρ h).W (fun xs h => match F.ini c with | some f => (F.call f (.ref h.length :: xs) (h ++ [.ins c []])).W (fun r h' => r = .non ∧ P (.ref h.length) h') X | none => False) X := by
  show (Res.bind _ _).W P X = _
  rw [W_bind]; congr; funext xs h
  show Res.W (match F.ini c with
    | some f => (F.call f (.ref h.length :: xs) (h ++ [.ins c []])).bind fun r h' => if r = .non then .ok (.ref h.length) h' else .stk
    | none => .stk) P X = _
  cases F.ini c with
  | none => rfl
  | some f =>
    show Res.W (Res.bind _ _) P X = _
    rw [W_bind]
    show Res.W _ _ _ = Res.W _ _ _
    congr; funext r h'; split <;> simp [*, W_ok, W_stk]
theorem s_sfd {f : Str} : (evS F (.sfd o f e) ρ h).W N R B C XS = (evE F e ρ h).W (fun d h => (evE F o ρ h).W (fun x h => (sfldop F x f d h).W (fun _ h => N ρ h) (fun c h => XS c ρ h)) (fun c h => XS c ρ h)) (fun c h => XS c ρ h) := by
  show (Res.sb _ _ _).W N R B C XS = _
  rw [W_sb]; congr; funext d h
  rw [W_sb]; congr; funext x h
  rw [W_sb]; rfl
theorem s_par {i j : Nat} : (evS F (.par i j a b) ρ h).W N R B C XS = (evE F a ρ h).W (fun x h => (evE F b ρ h).W (fun y h => N ((ρ.set i (some x)).set j (some y)) h) (fun c h => XS c ρ h)) (fun c h => XS c ρ h) := by
  show (Res.sb _ _ _).W N R B C XS = _
  rw [W_sb]; congr; funext d h
  rw [W_sb]; rfl
theorem s_thru {b : Ss} : (evS F (.thru b) ρ h).W N R B C XS = (evSs F b ρ h).W N R B C (fun _ _ _ => False) := by
  show ((evSs F b ρ h).quiet).W N R B C XS = _
  cases evSs F b ρ h <;> rfl
theorem s_stk : (evS F .stk ρ h).W N R B C XS = False := rfl
theorem fld_W {l c : Nat} {fs : List (Str × D)} {f : Str} {d : D} (e1 : h[l]? = some (.ins c fs)) (e2 : F.fld c f = true) (e3 : fs.lookup f = some d) : (fldop F (.ref l) f h).W P X = P d h := by
  show (match h[l]? with
    | some (.ins c fs) => (match F.fld c f, fs.lookup f with
      | true, some d => Res.ok d h
      | _, _ => .stk)
    | _ => .stk).W P X = _
  rw [e1]
  simp only [e2, e3]; rfl
theorem sfld_W {l c : Nat} {fs : List (Str × D)} {f : Str} {d : D} {Q : Unit → PH → Prop} (e1 : h[l]? = some (.ins c fs)) (e2 : F.fld c f = true) (e3 : fs.length < 1000) : (sfldop F (.ref l) f d h).W Q X = Q () (h.set l (.ins c (putF f d fs))) := by
  show (match h[l]? with
    | some (.ins c fs) => if fs.length < 1000 ∧ F.fld c f = true then Res.ok () (h.set l (.ins c (putF f d fs))) else .stk
    | _ => .stk).W Q X = _
  rw [e1]
  show (if fs.length < 1000 ∧ F.fld c f = true then Res.ok () (h.set l (.ins c (putF f d fs))) else .stk).W Q X = _
  rw [if_pos ⟨e3, e2⟩]; rfl
end
/-! loops -/
theorem forS_W {turn : D → Env → PH → SRes} {g : PH → Bool} {N R B C : _} {X : Nat → Env → PH → Prop} (I : List D → Env → PH → Prop) (xs : List D)
    (ht : ∀ done x rest ρ h, xs = done ++ x :: rest → I done ρ h → (turn x ρ h).W (fun ρ' h' => g h' = true ∧ I (done ++ [x]) ρ' h') R N (fun ρ' h' => g h' = true ∧ I (done ++ [x]) ρ' h') X)
    {ρ : Env} {h : PH} (h0 : I [] ρ h) (hd : ∀ ρ h, I xs ρ h → N ρ h) : (forS turn g xs ρ h).W N R B C X := by
  have gen : ∀ rest done ρ h, xs = done ++ rest → I done ρ h → (forS turn g rest ρ h).W N R B C X := by
    intro rest
    induction rest with
    | nil => intro done ρ h e i; rw [List.append_nil] at e; subst e; exact hd ρ h i
    | cons x rest ih =>
      intro done ρ h e i
      have w := ht done x rest ρ h e i
      unfold forS
      cases q : turn x ρ h with
      | nx ρ' h' =>
        rw [q] at w
        show (if g h' then forS turn g rest ρ' h' else .stk).W N R B C X
        rw [if_pos w.1]
        exact ih (done ++ [x]) ρ' h' (by rw [e]; simp) w.2
      | ct ρ' h' =>
        rw [q] at w
        show (if g h' then forS turn g rest ρ' h' else .stk).W N R B C X
        rw [if_pos w.1]
        exact ih (done ++ [x]) ρ' h' (by rw [e]; simp) w.2
      | bk ρ' h' => rw [q] at w; exact w
      | rt d h' => rw [q] at w; exact w
      | ex c ρ' h' => rw [q] at w; exact w
      | stk => rw [q] at w; exact w
  exact gen xs [] ρ h rfl h0
theorem whlS_W {c : Env → PH → Res Bool} {b : Env → PH → SRes} {N : Env → PH → Prop} {R B C} {X : Nat → Env → PH → Prop} (I : Env → PH → Prop) (m : Env → PH → Nat)
    (hc : ∀ ρ h, I ρ h → (c ρ h).W (fun k h' => if k = true then (b ρ h').W (fun ρ' h2 => I ρ' h2 ∧ m ρ' h2 < m ρ h) R N (fun ρ' h2 => I ρ' h2 ∧ m ρ' h2 < m ρ h) X else N ρ h') (fun x h => X x ρ h)) :
    ∀ (n : Nat) (ρ : Env) (h : PH), I ρ h → m ρ h < n → (whlS c b n ρ h).W N R B C X
  | 0, ρ, h, i, l => absurd l (Nat.not_lt_zero _)
  | n + 1, ρ, h, i, l => by
    have w := hc ρ h i
    unfold whlS
    rw [W_sb]
    refine W_mono w (fun k h' w => ?_) fun x h w => w
    cases k with
    | false => exact w
    | true =>
      simp only [if_true] at w ⊢
      cases q : b ρ h' with
      | nx ρ' h2 => rw [q] at w; exact whlS_W I m hc n ρ' h2 w.1 (by have := w.2; omega)
      | ct ρ' h2 => rw [q] at w; exact whlS_W I m hc n ρ' h2 w.1 (by have := w.2; omega)
      | bk ρ' h2 => rw [q] at w; exact w
      | rt d h2 => rw [q] at w; exact w
      | ex c ρ' h2 => rw [q] at w; exact w
      | stk => rw [q] at w; exact w
theorem lcS_W {turn : D → PH → Res (Option D)} {g : PH → Bool} {P : List D → PH → Prop} {X : Nat → PH → Prop} (f : D → Option D) (I : PH → Prop) :
    ∀ (xs acc : List D) (h : PH), (∀ x ∈ xs, ∀ h, I h → (turn x h).W (fun o h' => o = f x ∧ g h' = true ∧ I h') (fun _ _ => False)) → I h → acc.length + xs.length ≤ mx → (∀ h', I h' → P (acc ++ xs.filterMap f) h') → (lcS turn g xs acc h).W P X
  | [], acc, h, ht, i, l, hd => by
    have := hd h i
    rw [List.filterMap_nil, List.append_nil] at this
    exact this
  | x :: xs, acc, h, ht, i, l, hd => by
    have w := ht x List.mem_cons_self h i
    unfold lcS
    cases q : turn x h with
    | stk => rw [q] at w; exact w.elim
    | exc c h' => rw [q] at w; exact w.elim
    | ok o h' =>
      rw [q] at w
      obtain ⟨e, e2, i2⟩ := w
      have ll : acc.length + (xs.length + 1) ≤ mx := by simpa using l
      cases o with
      | some d =>
        show (if g h' = true ∧ acc.length < mx then lcS turn g xs (acc ++ [d]) h' else .stk).W P X
        rw [if_pos ⟨e2, by omega⟩]
        refine lcS_W f I xs (acc ++ [d]) h' (fun x hx => ht x (List.mem_cons_of_mem _ hx)) i2 (by simp; omega) fun h2 i3 => ?_
        have := hd h2 i3
        rw [List.filterMap_cons_some e.symm] at this
        simpa using this
      | none =>
        show (if g h' = true then lcS turn g xs acc h' else .stk).W P X
        rw [if_pos e2]
        refine lcS_W f I xs acc h' (fun x hx => ht x (List.mem_cons_of_mem _ hx)) i2 (by omega) fun h2 i3 => ?_
        have := hd h2 i3
        rw [List.filterMap_cons_none e.symm] at this
        exact this
section
variable {F : Fns} {P : D → PH → Prop} {X : Nat → PH → Prop} {h : PH} {ρ : Env}
theorem e_lc {e : Ex} {t : Tg} {i : Iw} {cs : Exs} {own : List Nat} : (evE F (.lc e t i cs own) ρ h).W P X = (evI F i ρ h).W (fun w h => (lcS (fun x h => (evT F t x (wipeE ρ own) h).bind fun ρ' h => (evC F cs ρ' h).bind fun b h => if b then (evE F e ρ' h).bind fun d h => .ok (some d) h else .ok none h) (fun h' => kept h h' w.keep) w.items [] h).W (fun ds h => P (.ref h.length) (h ++ [.lst ds])) X) X := by
  show (Res.bind _ _).W P X = _
  rw [W_bind]; congr; funext w h
  rw [W_bind]; rfl
theorem lturn_W {e : Ex} {t : Tg} {cs : Exs} {x : D} {Q : Option D → PH → Prop} : ((evT F t x ρ h).bind fun ρ' h => (evC F cs ρ' h).bind fun b h => if b then (evE F e ρ' h).bind fun d h => .ok (some d) h else .ok none h).W Q X =
    (evT F t x ρ h).W (fun ρ' h => (evC F cs ρ' h).W (fun b h => if b = true then (evE F e ρ' h).W (fun d h => Q (some d) h) X else Q none h) X) X := by
  rw [W_bind]; congr; funext ρ' h
  rw [W_bind]; congr; funext b h
  cases b with
  | true => simp only [if_true]; rw [W_bind]; rfl
  | false => simp; rfl
end
/-! operations -/
section
variable {P : D → PH → Prop} {X : Nat → PH → Prop} {h : PH}
theorem b_add {i j : Int} : (binop .add (.int i) (.int j) h).W P X = P (.int (i + j)) h := rfl
theorem b_sub {i j : Int} : (binop .sub (.int i) (.int j) h).W P X = P (.int (i - j)) h := rfl
theorem b_mulR {i j : Int} (h1 : -(2 ^ 64) < j) (h2 : j < 2 ^ 64) : (binop .mul (.int i) (.int j) h).W P X = P (.int (i * j)) h := by
  show (if mulOk i j then Res.ok (.int (i * j)) h else .stk).W P X = _
  have : mulOk i j = true := by unfold mulOk; rw [decide_eq_true h1, decide_eq_true h2]; simp
  rw [if_pos this]; rfl
theorem b_mulL {i j : Int} (h1 : -(2 ^ 64) < i) (h2 : i < 2 ^ 64) : (binop .mul (.int i) (.int j) h).W P X = P (.int (i * j)) h := by
  show (if mulOk i j then Res.ok (.int (i * j)) h else .stk).W P X = _
  have : mulOk i j = true := by unfold mulOk; rw [decide_eq_true h1, decide_eq_true h2]; rfl
  rw [if_pos this]; rfl
theorem b_fdiv {i j : Int} (h1 : 0 < j) (h2 : j.natAbs < 2 ^ 4000) : (binop .fdiv (.int i) (.int j) h).W P X = P (.int (i / j)) h := by
  show (if 0 < j ∧ j.natAbs < 2 ^ 4000 then Res.ok (.int (i / j)) h else if j < 0 ∧ j.natAbs < 1073741824 then .ok (.int (i.fdiv j)) h else .stk).W P X = _
  rw [if_pos ⟨h1, h2⟩]; rfl
theorem b_mod {i j : Int} (h1 : 0 < j) : (binop .mod (.int i) (.int j) h).W P X = P (.int (i % j)) h := by
  show (if 0 < j then Res.ok (.int (i % j)) h else if j < 0 then .ok (.int (i.fmod j)) h else .stk).W P X = _
  rw [if_pos h1]; rfl
theorem b_pow {i j : Int} (h1 : 0 ≤ j ∧ j ≤ 1000000 ∧ i.natAbs < 2 ^ 64) : (binop .pow (.int i) (.int j) h).W P X = P (.int (i ^ j.toNat)) h := by
  show (if 0 ≤ j ∧ j ≤ 1000000 ∧ i.natAbs < 2 ^ 64 then Res.ok (.int (i ^ j.toNat)) h else .stk).W P X = _
  rw [if_pos h1]; rfl
theorem small_div {j : Int} (h1 : 0 < j) (h2 : j < 2 ^ 64) : j.natAbs < 2 ^ 4000 := by
  have h3 : j.natAbs < 2 ^ 64 := by omega
  exact Nat.lt_of_lt_of_le h3 (Nat.pow_le_pow_right (by decide) (by decide))
theorem b_fdivS {i j : Int} (h1 : 0 < j) (h2 : j < 2 ^ 64) : (binop .fdiv (.int i) (.int j) h).W P X = P (.int (i / j)) h := b_fdiv h1 (small_div h1 h2)
theorem c_lt {i j : Int} : (cmpop .lt (.int i) (.int j) h).W P X = P (.bl (decide (i < j))) h := rfl
theorem c_le {i j : Int} : (cmpop .le (.int i) (.int j) h).W P X = P (.bl (decide (i ≤ j))) h := rfl
theorem c_gt {i j : Int} : (cmpop .gt (.int i) (.int j) h).W P X = P (.bl (decide (j < i))) h := rfl
theorem c_ge {i j : Int} : (cmpop .ge (.int i) (.int j) h).W P X = P (.bl (decide (j ≤ i))) h := rfl
theorem c_isN {a b : D} : (cmpop .isN a b h).W P X = P (.bl (decide (a = .non))) h := rfl
theorem c_notN {a b : D} : (cmpop .notN a b h).W P X = P (.bl (!decide (a = .non))) h := rfl
theorem c_eq {a b : D} {k : Bool} (e : eqD h a b = some k) : (cmpop .eq a b h).W P X = P (.bl k) h := by
  show (bool? (eqD h a b) h).W P X = _
  rw [e]; rfl
theorem c_ne {a b : D} {k : Bool} (e : eqD h a b = some k) : (cmpop .ne a b h).W P X = P (.bl (!k)) h := by
  show (bool? ((eqD h a b).map not) h).W P X = _
  rw [e]; rfl
theorem c_eqI {i j : Int} : (cmpop .eq (.int i) (.int j) h).W P X = P (.bl (decide (i = j))) h := c_eq (by show some (i == j) = _; rfl)
theorem c_neI {i j : Int} : (cmpop .ne (.int i) (.int j) h).W P X = P (.bl (!decide (i = j))) h := c_ne (by show some (i == j) = _; rfl)
theorem c_in {a b : D} {k : Bool} (e : memD h a b = some k) : (cmpop .ein a b h).W P X = P (.bl k) h := by
  show (bool? (memD h a b) h).W P X = _
  rw [e]; rfl
theorem c_nin {a b : D} {k : Bool} (e : memD h a b = some k) : (cmpop .nin a b h).W P X = P (.bl (!k)) h := by
  show (bool? ((memD h a b).map not) h).W P X = _
  rw [e]; rfl
end
/-! heaps that grow -/
def Pre (h h' : PH) : Prop := ∃ g, h' = h ++ g
theorem Pre.refl {h : PH} : Pre h h := ⟨[], (List.append_nil _).symm⟩
theorem Pre.trans {h h' h2 : PH} (a : Pre h h') (b : Pre h' h2) : Pre h h2 := by
  obtain ⟨g, rfl⟩ := a
  obtain ⟨g', rfl⟩ := b
  exact ⟨g ++ g', List.append_assoc ..⟩
theorem Pre.app {h h' : PH} (a : Pre h h') (g : PH) : Pre h (h' ++ g) := a.trans ⟨g, rfl⟩
theorem Pre.get {h h' : PH} (a : Pre h h') {l : Nat} {o : O} (e : h[l]? = some o) : h'[l]? = some o := by
  obtain ⟨g, rfl⟩ := a
  rw [List.getElem?_append_left (List.getElem?_eq_some_iff.mp e).1]; exact e
theorem Pre.len {h h' : PH} (a : Pre h h') : h.length ≤ h'.length := by
  obtain ⟨g, rfl⟩ := a
  simp
theorem Pre.set {h h' : PH} (a : Pre h h') {l : Nat} (hl : h.length ≤ l) (o : O) : Pre h (h'.set l o) := by
  obtain ⟨g, rfl⟩ := a
  exact ⟨g.set (l - h.length) o, by rw [List.set_append_right _ _ hl]⟩
theorem get_new {h : PH} {o : O} : (h ++ [o])[h.length]? = some o := by simp
theorem get_set {h : PH} {l : Nat} {o o' : O} (e : h[l]? = some o) : (h.set l o')[l]? = some o' := List.getElem?_set_self (List.getElem?_eq_some_iff.mp e).1
theorem kept_nil {h h' : PH} : kept h h' [] = true := rfl
theorem kept_one {h h' : PH} {l : Nat} (e : h[l]? = h'[l]?) : kept h h' [l] = true := by simp [kept, e]
theorem kept_pre {h h' : PH} {ls : List Nat} (a : Pre h h') (hl : ∀ l ∈ ls, l < h.length) : kept h h' ls = true := by
  unfold kept
  rw [List.all_eq_true]
  intro l hm
  obtain ⟨g, rfl⟩ := a
  simp [List.getElem?_append_left (hl l hm)]
end Mp.Wp

set_option Elab.async false
set_option linter.all false
set_option maxRecDepth 100000
/-! W2: plain data: numbers, texts, tuples. -/
namespace Mp.Wp
open PySem (Str)
/-- numbers, texts, None and tuples of such, at most n tuples in one another -/
def plB : Nat → D → Bool
  | _, .non => true
  | _, .int _ => true
  | _, .str x => PySem.PyData.strOk x
  | n + 1, .tup ds => ds.all (plB n) && decide (ds.length ≤ 4096)
  | _, _ => false
theorem pl_tup {n : Nat} {ds : List D} : plB (n + 1) (.tup ds) = true ↔ (∀ d ∈ ds, plB n d = true) ∧ ds.length ≤ 4096 := by
  show (ds.all (plB n) && decide (ds.length ≤ 4096)) = true ↔ _
  rw [Bool.and_eq_true, List.all_eq_true, decide_eq_true_eq]
theorem plB_mono : ∀ {n m : Nat} {d : D}, plB n d = true → n ≤ m → plB m d = true
  | n, m, .non, _, _ => by cases m <;> rfl
  | n, m, .int _, _, _ => by cases m <;> rfl
  | n, m, .str x, h, _ => by cases n <;> cases m <;> exact h
  | 0, m, .tup ds, h, _ => nomatch h
  | n + 1, 0, .tup ds, h, l => by omega
  | n + 1, m + 1, .tup ds, h, l => by
    rw [pl_tup] at h ⊢
    exact ⟨fun x hx => plB_mono (h.1 x hx) (by omega), h.2⟩
  | n, m, .bl _, h, _ => by cases n <;> cases h
  | n, m, .ref _, h, _ => by cases n <;> cases h
  | n, m, .fn _, h, _ => by cases n <;> cases h
  | n, m, .exn _, h, _ => by cases n <;> cases h
  | n, m, .lst _, h, _ => by cases n <;> cases h
  | n, m, .scr _, h, _ => by cases n <;> cases h
theorem mapO_id {α : Type} {f : α → Option α} : ∀ {xs : List α}, (∀ x ∈ xs, f x = some x) → mapO f xs = some xs
  | [], _ => rfl
  | x :: xs, h => by
    unfold mapO
    rw [h x List.mem_cons_self, mapO_id fun y hy => h y (List.mem_cons_of_mem _ hy)]
theorem deref_pl {h : PH} : ∀ {n m : Nat} {d : D}, plB n d = true → n ≤ m → deref h m d = some d
  | n, m, .non, _, _ => by cases m <;> rfl
  | n, m, .int _, _, _ => by cases m <;> rfl
  | n, m, .str x, h', _ => by
    have e : PySem.PyData.strOk x = true := by cases n <;> exact h'
    have : deref h m (.str x) = if PySem.PyData.strOk x then some (.str x) else none := by cases m <;> rfl
    rw [this, if_pos e]
  | 0, m, .tup ds, h, _ => nomatch h
  | n + 1, 0, .tup ds, h, l => by omega
  | n + 1, m + 1, .tup ds, h', l => by
    have h2 := (pl_tup.mp h').1
    show (match mapO (deref h m) ds with | some es => some (D.tup es) | none => none) = _
    rw [mapO_id fun x hx => deref_pl (h2 x hx) (by omega)]
  | n, m, .bl _, h, _ => by cases n <;> cases h
  | n, m, .ref _, h, _ => by cases n <;> cases h
  | n, m, .fn _, h, _ => by cases n <;> cases h
  | n, m, .exn _, h, _ => by cases n <;> cases h
  | n, m, .lst _, h, _ => by cases n <;> cases h
  | n, m, .scr _, h, _ => by cases n <;> cases h
theorem eqvs_pl {n m : Nat} (ih : ∀ a b, plB n a = true → plB m b = true → D.eqv a b = decide (a = b)) : ∀ (as bs : List D), (∀ x ∈ as, plB n x = true) → (∀ x ∈ bs, plB m x = true) → D.eqvs as bs = decide (as = bs)
  | [], [], _, _ => rfl
  | [], b :: bs, _, _ => rfl
  | a :: as, [], _, _ => rfl
  | a :: as, b :: bs, ha, hb => by
    unfold D.eqvs
    rw [ih a b (ha a List.mem_cons_self) (hb b List.mem_cons_self), eqvs_pl ih as bs (fun x hx => ha x (List.mem_cons_of_mem _ hx)) fun x hx => hb x (List.mem_cons_of_mem _ hx)]
    by_cases h1 : a = b <;> by_cases h2 : as = bs <;> simp [h1, h2]
theorem eqv_pl : ∀ (n m : Nat) (a b : D), plB n a = true → plB m b = true → D.eqv a b = decide (a = b) := by
  intro n
  induction n with
  | zero =>
    intro m a b ha hb
    cases a with
    | non => cases b <;> first | rfl | (cases m <;> cases hb)
    | int i =>
      cases b with
      | int j => show (i == j) = _; by_cases e : i = j <;> simp [e]
      | bl k => cases m <;> cases hb
      | _ => rfl
    | str x =>
      cases b with
      | str y => show (x == y) = _; by_cases e : x = y <;> simp [e]
      | _ => rfl
    | _ => cases ha
  | succ n ih =>
    intro m a b ha hb
    cases a with
    | non => cases b <;> first | rfl | (cases m <;> cases hb)
    | int i =>
      cases b with
      | int j => show (i == j) = _; by_cases e : i = j <;> simp [e]
      | bl k => cases m <;> cases hb
      | _ => rfl
    | str x =>
      cases b with
      | str y => show (x == y) = _; by_cases e : x = y <;> simp [e]
      | _ => rfl
    | tup as =>
      cases b with
      | tup bs =>
        cases m with
        | zero => cases hb
        | succ m =>
          have ha' := (pl_tup.mp ha).1
          have hb' := (pl_tup.mp hb).1
          show D.eqvs as bs = _
          rw [eqvs_pl (fun a b => ih m a b) as bs ha' hb']
          by_cases e : as = bs <;> simp [e]
      | _ => rfl
    | _ => cases ha
/-- plain -/
def Plain (d : D) : Prop := plB 64 d = true
theorem Plain.of {n : Nat} {d : D} (h : plB n d = true) (l : n ≤ 64 := by decide) : Plain d := plB_mono h l
theorem eqD_pl {h : PH} {a b : D} (ha : Plain a) (hb : Plain b) : eqD h a b = some (decide (a = b)) := by
  unfold eqD
  rw [deref_pl ha (Nat.le_refl _), deref_pl hb (Nat.le_refl _)]
  simp only [eqv_pl 64 64 a b ha hb]
theorem any_eqv {a : D} {n : Nat} (ha : plB n a = true) : ∀ ys : List D, (∀ y ∈ ys, plB n y = true) → (ys.any fun z => D.eqv z a) = decide (a ∈ ys)
  | [], _ => rfl
  | y :: ys, h => by
    rw [List.any_cons, eqv_pl n n y a (h y List.mem_cons_self) ha, any_eqv ha ys fun z hz => h z (List.mem_cons_of_mem _ hz)]
    by_cases e : y = a
    · subst e; simp
    · by_cases e2 : a ∈ ys <;> simp [e, e2, Ne.symm e]
theorem deref_lst {h : PH} {l : Nat} {ys : List D} {n : Nat} (e : h[l]? = some (.lst ys)) (hy : ∀ y ∈ ys, plB n y = true) {m : Nat} (l2 : n ≤ m) : deref h (m + 1) (.ref l) = some (.lst ys) := by
  show (match h[l]? with
    | some (.lst ds) => match mapO (deref h m) ds with
      | some es => some (D.lst es)
      | none => none
    | _ => none) = _
  rw [e]
  simp only [mapO_id fun x hx => deref_pl (h := h) (hy x hx) l2]
theorem dget_lst {h : PH} {l : Nat} {ys : List D} {k : D} (e : h[l]? = some (.lst ys)) : dget h (.ref l) k = none := by
  have h1 : dctOf h (.ref l) = none := by
    show (match h[l]? with | some (.dct kvs) => some kvs | _ => none) = none
    rw [e]
  have h2 : tdOf h (.ref l) = none := by
    show (match h[l]? with | some (.tdc kvs) => some kvs | some (.dct []) => some [] | _ => none) = none
    rw [e]
  unfold dget
  rw [h1, h2]
theorem memD_lst {h : PH} {a : D} {l : Nat} {ys : List D} {n : Nat} (ha : plB n a = true) (e : h[l]? = some (.lst ys)) (hy : ∀ y ∈ ys, plB n y = true) (hn : n ≤ 63 := by decide) : memD h a (.ref l) = some (decide (a ∈ ys)) := by
  have : memD h a (.ref l) = (match deref h 64 a, deref h 64 (.ref l) with
      | some x, some (.lst ys) => some (ys.any fun z => D.eqv z x)
      | some x, some (.tup ys) => some (ys.any fun z => D.eqv z x)
      | _, _ => none) := by
    cases a <;> (unfold memD; simp only [dget_lst e]) <;> try rfl
  rw [this, deref_pl ha (by omega), deref_lst e hy (by omega : n ≤ 63)]
  simp only [any_eqv ha ys hy]
theorem memD_tup {h : PH} {a : D} {ys : List D} {n : Nat} (ha : plB n a = true) (hy : ∀ y ∈ ys, plB n y = true) (hn : n ≤ 63 := by decide) : memD h a (.tup ys) = some (decide (a ∈ ys)) := by
  have : memD h a (.tup ys) = (match deref h 64 a, deref h 64 (.tup ys) with
      | some x, some (.lst ys) => some (ys.any fun z => D.eqv z x)
      | some x, some (.tup ys) => some (ys.any fun z => D.eqv z x)
      | _, _ => none) := by cases a <;> rfl
  have ht : deref h 64 (.tup ys) = some (.tup ys) := by
    show (match mapO (deref h 63) ys with | some es => some (D.tup es) | none => none) = _
    rw [mapO_id fun x hx => deref_pl (hy x hx) hn]
  rw [this, deref_pl ha (by omega), ht]
  simp only [any_eqv ha ys hy]
theorem eqvs_all {n : Nat} : ∀ (as bs : List D), (∀ x ∈ as, plB n x = true) → (∀ x ∈ bs, plB n x = true) → D.eqvs as bs = decide (as = bs) := eqvs_pl (eqv_pl n n)
theorem eqD_lst {h : PH} {l m : Nat} {xs ys : List D} {n : Nat} (e1 : h[l]? = some (.lst xs)) (e2 : h[m]? = some (.lst ys)) (hx : ∀ y ∈ xs, plB n y = true) (hy : ∀ y ∈ ys, plB n y = true) (hn : n ≤ 63 := by decide) : eqD h (.ref l) (.ref m) = some (decide (xs = ys)) := by
  unfold eqD
  rw [deref_lst e1 hx (by omega : n ≤ 63), deref_lst e2 hy (by omega : n ≤ 63)]
  show some (D.eqvs xs ys) = _
  rw [eqvs_all xs ys hx hy]
theorem pl_int {n : Nat} {i : Int} : plB n (.int i) = true := by cases n <;> rfl
theorem pl_str {n : Nat} {x : Str} : plB n (.str x) = PySem.PyData.strOk x := by cases n <;> rfl
end Mp.Wp

set_option Elab.async false
set_option linter.all false
set_option maxRecDepth 100000
/-! W3: more rules of the operations, over plain data and lists. -/
namespace Mp.Wp
open PySem (Str)
section
variable {F : Fns} {P : D → PH → Prop} {X : Nat → PH → Prop} {h h' : PH} {n : Nat}
theorem pl_of {n : Nat} {d : D} (h : plB n d = true) (l : n ≤ 64 := by decide) : Plain d := plB_mono h l
theorem c_eqP {a b : D} (ha : Plain a) (hb : Plain b) : (cmpop .eq a b h).W P X = P (.bl (decide (a = b))) h := c_eq (eqD_pl ha hb)
theorem c_neP {a b : D} (ha : Plain a) (hb : Plain b) : (cmpop .ne a b h).W P X = P (.bl (!decide (a = b))) h := c_ne (eqD_pl ha hb)
theorem item_0 {a : D} {r : List D} : item (a :: r) 0 = some a := by simp [item, place]
theorem item_1 {a b : D} {r : List D} : item (a :: b :: r) 1 = some b := by
  have : place (a :: b :: r).length 1 = some 1 := by
    unfold place
    rw [if_pos (by decide), if_pos (by simp; omega)]; rfl
  unfold item
  rw [this]; rfl
theorem item_2 {a b c : D} {r : List D} : item (a :: b :: c :: r) 2 = some c := by
  have : place (a :: b :: c :: r).length 2 = some 2 := by
    unfold place
    rw [if_pos (by decide), if_pos (by simp; omega)]; rfl
  unfold item
  rw [this]; rfl
theorem item_3 {a b c d : D} {r : List D} : item (a :: b :: c :: d :: r) 3 = some d := by
  have : place (a :: b :: c :: d :: r).length 3 = some 3 := by
    unfold place
    rw [if_pos (by decide), if_pos (by simp; omega)]; rfl
  unfold item
  rw [this]; rfl
theorem item_4 {a b c d e : D} {r : List D} : item (a :: b :: c :: d :: e :: r) 4 = some e := by
  have : place (a :: b :: c :: d :: e :: r).length 4 = some 4 := by
    unfold place
    rw [if_pos (by decide), if_pos (by simp; omega)]; rfl
  unfold item
  rw [this]; rfl
theorem item_nat {xs : List D} {k : Nat} (hk : k < xs.length) : item xs (k : Int) = some xs[k] := by
  have : place xs.length (k : Int) = some k := by
    unfold place
    rw [if_pos (by omega), if_pos (by omega)]; simp
  unfold item
  rw [this]; simp [hk]
theorem item_int {xs : List D} {i : Int} (h0 : 0 ≤ i) (h1 : i < xs.length) : ∃ d, item xs i = some d ∧ d ∈ xs ∧ xs[i.toNat]? = some d := by
  have hk : i.toNat < xs.length := by omega
  have := item_nat hk
  rw [Int.toNat_of_nonneg h0] at this
  exact ⟨xs[i.toNat], this, List.getElem_mem hk, by simp [hk]⟩
theorem dget_seq {a : D} {xs : List D} {k : D} (e : seqOf h a = some xs) : dget h a k = none := by
  cases a with
  | ref l =>
    have e' : (match h[l]? with | some (.lst ds) => some ds | _ => none) = some xs := e
    split at e'
    · rename_i ds eo
      exact dget_lst eo
    · cases e'
  | tup ds => rfl
  | scr ds => rfl
  | _ => cases e
/-- x[i], a list or a tuple known -/
theorem x_seq {a : D} {i : Int} {xs : List D} (e : seqOf h a = some xs) : (ixop a (.int i) h).W P X = (match item xs i with | some d => P d h | none => False) := by
  unfold ixop
  rw [dget_seq e]
  cases a with
  | str x => cases e
  | non => cases e
  | bl b => cases e
  | int i => cases e
  | fn k => cases e
  | exn k => cases e
  | lst ds => cases e
  | tup ds => cases e; show (match item xs i with | some d => Res.ok d h | none => .stk).W P X = _; split <;> rfl
  | scr ds => cases e; show (match item xs i with | some d => Res.ok d h | none => .stk).W P X = _; split <;> rfl
  | ref l =>
    show (match seqOf h (.ref l) with
      | some xs => (match item xs i with | some d => Res.ok d h | none => .stk)
      | none => .stk).W P X = _
    rw [e]
    show (match item xs i with | some d => Res.ok d h | none => .stk).W P X = _
    split <;> rfl
theorem x_tup {i : Int} {xs : List D} : (ixop (.tup xs) (.int i) h).W P X = (match item xs i with | some d => P d h | none => False) := x_seq rfl
theorem x_scr {i : Int} {xs : List D} : (ixop (.scr xs) (.int i) h).W P X = (match item xs i with | some d => P d h | none => False) := x_seq rfl
theorem seq_ref {l : Nat} {xs : List D} (e : h[l]? = some (.lst xs)) : seqOf h (.ref l) = some xs := by
  show (match h[l]? with | some (.lst ds) => some ds | _ => none) = _
  rw [e]
theorem lst_ref {l : Nat} {xs : List D} (e : h[l]? = some (.lst xs)) : lstOf h (.ref l) = some xs := by
  show (match h[l]? with | some (.lst ds) => some ds | _ => none) = _
  rw [e]
theorem dct_ref {l : Nat} {xs : List (D × D)} (e : h[l]? = some (.dct xs)) : dctOf h (.ref l) = some xs := by
  show (match h[l]? with | some (.dct ds) => some ds | _ => none) = _
  rw [e]
theorem x_ref {i : Int} {l : Nat} {xs : List D} (e : h[l]? = some (.lst xs)) : (ixop (.ref l) (.int i) h).W P X = (match item xs i with | some d => P d h | none => False) := x_seq (seq_ref e)
theorem f_len {a : D} {xs : List D} (e : seqOf h a = some xs) : (bfn .len [a] h).W P X = P (.int xs.length) h := by
  cases a with
  | str x => cases e
  | non => cases e
  | bl b => cases e
  | int i => cases e
  | fn k => cases e
  | exn k => cases e
  | lst ds => cases e
  | tup ds => cases e; rfl
  | scr ds => cases e; rfl
  | ref l =>
    show (match seqOf h (.ref l) with
    | some ds => Res.ok (D.int ds.length) h
    | none => match dctOf h (.ref l) with
      | some kvs => .ok (.int kvs.length) h
      | none => match tdOf h (.ref l) with
        | some kvs => .ok (.int kvs.length) h
        | none => .stk).W P X = _
    rw [e]; rfl
theorem f_lenT {xs : List D} : (bfn .len [.tup xs] h).W P X = P (.int xs.length) h := rfl
theorem f_lenL {l : Nat} {xs : List D} (e : h[l]? = some (.lst xs)) : (bfn .len [.ref l] h).W P X = P (.int xs.length) h := f_len (seq_ref e)
theorem f_list {a : D} {xs : List D} (e : seqOf h a = some xs) : (bfn .list [a] h).W P X = P (.ref h.length) (h ++ [.lst xs]) := by
  show (match seqOf h a with
    | some ds => newL ds h
    | none => .stk).W P X = _
  rw [e]; rfl
theorem f_isi {a : D} {t : Ty} {k : Bool} (e : isTy h a t = some k) : (bfn (.isi t) [a] h).W P X = P (.bl k) h := by
  show (bool? (isTy h a t) h).W P X = _
  rw [e]; rfl
theorem f_isiT {xs : List D} {t : Ty} : (bfn (.isi t) [.tup xs] h).W P X = P (.bl (decide (t = Ty.tuple))) h := f_isi rfl
theorem f_isiI {i : Int} {t : Ty} : (bfn (.isi t) [.int i] h).W P X = P (.bl (decide (t = Ty.int))) h := f_isi rfl
theorem f_isiS {x : Str} {t : Ty} : (bfn (.isi t) [.str x] h).W P X = P (.bl (decide (t = Ty.str))) h := f_isi rfl
theorem f_isiN {t : Ty} : (bfn (.isi t) [.non] h).W P X = P (.bl false) h := f_isi rfl
theorem f_isiL {l : Nat} {xs : List D} {t : Ty} (e : h[l]? = some (.lst xs)) : (bfn (.isi t) [.ref l] h).W P X = P (.bl (decide (t = Ty.list))) h := f_isi (by
  show (match h[l]? with
    | some (.lst _) => some (decide (t = Ty.list))
    | some (.dct _) => some (decide (t = Ty.dict))
    | some (.tdc _) => some (decide (t = Ty.dict))
    | _ => none) = _
  rw [e])
theorem f_isiD {l : Nat} {xs : List (D × D)} {t : Ty} (e : h[l]? = some (.dct xs)) : (bfn (.isi t) [.ref l] h).W P X = P (.bl (decide (t = Ty.dict))) h := f_isi (by
  show (match h[l]? with
    | some (.lst _) => some (decide (t = Ty.list))
    | some (.dct _) => some (decide (t = Ty.dict))
    | some (.tdc _) => some (decide (t = Ty.dict))
    | _ => none) = _
  rw [e])
theorem rk_l {l : Nat} {xs : List D} (e : h[l]? = some (.lst xs)) : rkOf h (.ref l) = some .l := by
  show (match h[l]? with
    | some (.lst _) => some Rk.l
    | some (.dct _) => some .d
    | some (.tdc _) => some .d
    | _ => none) = _
  rw [e]
theorem rk_d {l : Nat} {xs : List (D × D)} (e : h[l]? = some (.dct xs)) : rkOf h (.ref l) = some .d := by
  show (match h[l]? with
    | some (.lst _) => some Rk.l
    | some (.dct _) => some .d
    | some (.tdc _) => some .d
    | _ => none) = _
  rw [e]
/-- a list's method: the list is read again behind the arguments -/
theorem m_l {m : Mid} {es : Exs} {ρ : Env} {l : Nat} {xs : List D} (e : h[l]? = some (.lst xs)) (hm : (midId m .l).isSome = true := by rfl) : metW F m es ρ P X (.ref l) h = (evEs F es ρ h).W (fun xs h => (metL m l xs h).W P X) X := by
  unfold metW
  rw [rk_l e]
  show ((midId m .l).isSome = true ∧ _) = _
  rw [hm]; simp; rfl
theorem m_d {m : Mid} {es : Exs} {ρ : Env} {l : Nat} {xs : List (D × D)} (e : h[l]? = some (.dct xs)) (hm : (midId m .d).isSome = true := by rfl) : metW F m es ρ P X (.ref l) h = (evEs F es ρ h).W (fun xs h => (metD m l xs h).W P X) X := by
  unfold metW
  rw [rk_d e]
  show ((midId m .d).isSome = true ∧ _) = _
  rw [hm]; simp; rfl
theorem m_app {es : Exs} {ρ : Env} {l : Nat} {xs : List D} (e : h[l]? = some (.lst xs)) : metW F .append es ρ P X (.ref l) h = (evEs F es ρ h).W (fun xs h => (metL .append l xs h).W P X) X := m_l (m := .append) e
theorem m_ext {es : Exs} {ρ : Env} {l : Nat} {xs : List D} (e : h[l]? = some (.lst xs)) : metW F .extend es ρ P X (.ref l) h = (evEs F es ρ h).W (fun xs h => (metL .extend l xs h).W P X) X := m_l (m := .extend) e
theorem m_pop {es : Exs} {ρ : Env} {l : Nat} {xs : List D} (e : h[l]? = some (.lst xs)) : metW F .pop es ρ P X (.ref l) h = (evEs F es ρ h).W (fun xs h => (metL .pop l xs h).W P X) X := m_l (m := .pop) e
theorem m_popAt {es : Exs} {ρ : Env} {l : Nat} {xs : List D} (e : h[l]? = some (.lst xs)) : metW F .popAt es ρ P X (.ref l) h = (evEs F es ρ h).W (fun xs h => (metL .popAt l xs h).W P X) X := m_l (m := .popAt) e
theorem m_clr {es : Exs} {ρ : Env} {l : Nat} {xs : List D} (e : h[l]? = some (.lst xs)) : metW F .clear es ρ P X (.ref l) h = (evEs F es ρ h).W (fun xs h => (metL .clear l xs h).W P X) X := m_l (m := .clear) e
theorem m_rev {es : Exs} {ρ : Env} {l : Nat} {xs : List D} (e : h[l]? = some (.lst xs)) : metW F .reverse es ρ P X (.ref l) h = (evEs F es ρ h).W (fun xs h => (metL .reverse l xs h).W P X) X := m_l (m := .reverse) e
theorem m_clrD {es : Exs} {ρ : Env} {l : Nat} {xs : List (D × D)} (e : h[l]? = some (.dct xs)) : metW F .clear es ρ P X (.ref l) h = (evEs F es ρ h).W (fun xs h => (metD .clear l xs h).W P X) X := m_d (m := .clear) e
theorem m_get1 {es : Exs} {ρ : Env} {l : Nat} {xs : List (D × D)} (e : h[l]? = some (.dct xs)) : metW F .get1 es ρ P X (.ref l) h = (evEs F es ρ h).W (fun xs h => (metD .get1 l xs h).W P X) X := m_d (m := .get1) e
theorem m_get2 {es : Exs} {ρ : Env} {l : Nat} {xs : List (D × D)} (e : h[l]? = some (.dct xs)) : metW F .get2 es ρ P X (.ref l) h = (evEs F es ρ h).W (fun xs h => (metD .get2 l xs h).W P X) X := m_d (m := .get2) e
theorem m_append {d : D} {l : Nat} {xs : List D} (e : h[l]? = some (.lst xs)) : (metL .append l [d] h).W P X = (xs.length < mx ∧ P .non (h.set l (.lst (xs ++ [d])))) := by
  show (match h[l]? with
    | some (.lst ds) => if ds.length < mx then Res.ok D.non (h.set l (.lst (ds ++ [d]))) else .stk
    | _ => .stk).W P X = _
  rw [e]
  show (if xs.length < mx then Res.ok D.non (h.set l (.lst (xs ++ [d]))) else .stk).W P X = _
  split <;> simp [*, W_ok, W_stk]
theorem b_addL {l m : Nat} {xs ys : List D} (e1 : h[l]? = some (.lst xs)) (e2 : h[m]? = some (.lst ys)) : (binop .add (.ref l) (.ref m) h).W P X = (xs.length + ys.length ≤ mx ∧ P (.ref h.length) (h ++ [.lst (xs ++ ys)])) := by
  show (match h[l]?, h[m]? with
    | some (.lst xs), some (.lst ys) => if xs.length + ys.length ≤ mx then newL (xs ++ ys) h else .stk
    | _, _ => .stk).W P X = _
  rw [e1, e2]
  show (if xs.length + ys.length ≤ mx then newL (xs ++ ys) h else .stk).W P X = _
  split <;> simp [*, W_ok, W_stk, newL]
theorem sl_tup {xs : List D} {lo hi : Option Int} : (slop (.tup xs) lo hi h).W P X = P (.tup (cut xs lo hi)) h := rfl
theorem sl_lst {a : D} {xs : List D} {lo hi : Option Int} (e : lstOf h a = some xs) : (slop a lo hi h).W P X = P (.ref h.length) (h ++ [.lst (cut xs lo hi)]) := by
  cases a with
  | tup ds => cases e
  | _ =>
    unfold slop
    simp only [e]; rfl
theorem cut_to {xs : List D} {k : Nat} : cut xs none (some (k : Int)) = xs.take k := by
  unfold cut
  have : sIx xs.length 0 none = 0 := rfl
  rw [this]
  have h2 : sIx xs.length xs.length (some (k : Int)) = min k xs.length := by
    show (if (k : Int) < 0 then ((k : Int) + (xs.length : Int)).toNat else min (k : Int).toNat xs.length) = _
    rw [if_neg (by omega)]; simp
  rw [h2]
  simp [List.take_eq_take_iff]
theorem cut_from {xs : List D} {k : Nat} : cut xs (some (k : Int)) none = xs.drop k := by
  unfold cut
  have : sIx xs.length xs.length none = xs.length := rfl
  rw [this]
  have h2 : sIx xs.length 0 (some (k : Int)) = min k xs.length := by
    show (if (k : Int) < 0 then ((k : Int) + (xs.length : Int)).toNat else min (k : Int).toNat xs.length) = _
    rw [if_neg (by omega)]; simp
  rw [h2]
  by_cases hk : k ≤ xs.length
  · rw [Nat.min_eq_left hk, List.take_of_length_le (by simp)]
  · rw [Nat.min_eq_right (by omega), List.drop_of_length_le (Nat.le_refl _), List.drop_of_length_le (by omega)]; simp
theorem cut_sub {xs : List D} {lo hi : Option Int} : ∀ d ∈ cut xs lo hi, d ∈ xs := fun d hd => List.mem_of_mem_drop (List.mem_of_mem_take hd)
theorem cut_len {xs : List D} {lo hi : Option Int} : (cut xs lo hi).length ≤ xs.length := by
  unfold cut
  rw [List.length_take, List.length_drop]
  omega
theorem seqW_of {a : D} {xs : List D} {Q : Walk → PH → Prop} (e : seqOf h a = some xs) : (seqW h a).W Q X = Q ⟨xs, locs a⟩ h := by
  unfold seqW
  cases a with
  | str x => cases e
  | _ => simp only [e]; rfl
theorem seqW_str {x : Str} {Q : Walk → PH → Prop} : (seqW h (.str x)).W Q X = Q ⟨signs x, []⟩ h := rfl
theorem rngD_len {lo : Int} {n : Nat} : (rngD lo n).length = n := by simp [rngD]
theorem mapO_map {α β : Type} {f : α → Option β} {g : β → α} (e : ∀ x, f (g x) = some x) : ∀ xs : List β, mapO f (xs.map g) = some xs
  | [] => rfl
  | x :: xs => by
    rw [List.map_cons]
    unfold mapO
    rw [e, mapO_map e xs]
theorem intsD_map (is : List Int) : intsD (is.map D.int) = some is := by
  unfold intsD
  exact mapO_map (g := D.int) (fun _ => rfl) is
theorem bools_map (is : List Bool) : bools (is.map D.bl) = some is := by
  unfold bools
  exact mapO_map (g := D.bl) (fun _ => rfl) is
theorem f_maxd {a : D} {is : List Int} {d : Int} (e : lstOf h a = some (is.map D.int)) : (bfn .maxd [a, .int d] h).W P X = P (.int (mxd d is)) h := by
  show (match lstOf h a with
    | some ds => (match intsD ds with
      | some is => Res.ok (D.int (mxd d is)) h
      | none => .stk)
    | none => .stk).W P X = _
  rw [e]; simp only [intsD_map]; rfl
theorem f_all {a : D} {is : List Bool} (e : lstOf h a = some (is.map D.bl)) : (bfn .all [a] h).W P X = P (.bl (is.all id)) h := by
  show (match lstOf h a with
    | some ds => (match bools ds with
      | some bs => Res.ok (D.bl (bs.all id)) h
      | none => .stk)
    | none => .stk).W P X = _
  rw [e]; simp only [bools_map]; rfl
theorem f_any {a : D} {is : List Bool} (e : lstOf h a = some (is.map D.bl)) : (bfn .any [a] h).W P X = P (.bl (is.any id)) h := by
  show (match lstOf h a with
    | some ds => (match bools ds with
      | some bs => Res.ok (D.bl (bs.any id)) h
      | none => .stk)
    | none => .stk).W P X = _
  rw [e]; simp only [bools_map]; rfl
end
end Mp.Wp

set_option Elab.async false
set_option linter.all false
set_option maxRecDepth 100000
/-! W4: loops by places, comprehensions of any items. -/
namespace Mp.Wp
open PySem (Str)
/-- a loop by the number of turns gone -/
theorem forI_W {turn : D → Env → PH → SRes} {g : PH → Bool} {N R B C : _} {X : Nat → Env → PH → Prop} (I : Nat → Env → PH → Prop) (xs : List D)
    (ht : ∀ k x ρ h, xs[k]? = some x → I k ρ h → (turn x ρ h).W (fun ρ' h' => g h' = true ∧ I (k + 1) ρ' h') R N (fun ρ' h' => g h' = true ∧ I (k + 1) ρ' h') X)
    {ρ : Env} {h : PH} (h0 : I 0 ρ h) (hd : ∀ ρ h, I xs.length ρ h → N ρ h) : (forS turn g xs ρ h).W N R B C X := by
  refine forS_W (fun done ρ h => (∃ r, xs = done ++ r) ∧ I done.length ρ h) xs (fun done x rest ρ h e i => ?_) ⟨⟨xs, rfl⟩, h0⟩ fun ρ h i => hd ρ h i.2
  refine SW_mono (ht done.length x ρ h (by rw [e]; simp) i.2) (fun ρ' h' w => ⟨w.1, ⟨rest, by rw [e]; simp⟩, ?_⟩) (fun _ _ w => w) (fun _ _ w => w) (fun ρ' h' w => ⟨w.1, ⟨rest, by rw [e]; simp⟩, ?_⟩) fun _ _ _ w => w
  · have := w.2; simpa using this
  · have := w.2; simpa using this
theorem enumD_get : ∀ (xs : List D) (j k : Nat), (enumD j xs)[k]? = xs[k]?.map fun d => .tup [.int ((j + k : Nat) : Int), d]
  | [], j, k => by simp [enumD]
  | x :: xs, j, 0 => by simp [enumD]
  | x :: xs, j, k + 1 => by
    show (enumD (j + 1) xs)[k]? = _
    rw [enumD_get xs (j + 1) k]
    simp [Nat.add_assoc, Nat.add_comm, Nat.add_left_comm]
theorem enumD_len : ∀ (xs : List D) (j : Nat), (enumD j xs).length = xs.length
  | [], j => rfl
  | x :: xs, j => by show (enumD (j + 1) xs).length + 1 = _; rw [enumD_len xs]; rfl
/-- for k, x in enumerate(xs) -/
theorem forE_W {turn : D → Env → PH → SRes} {g : PH → Bool} {N R B C : _} {X : Nat → Env → PH → Prop} (I : Nat → Env → PH → Prop) (xs : List D)
    (ht : ∀ (k : Nat) x ρ h, xs[k]? = some x → I k ρ h → (turn (.tup [.int k, x]) ρ h).W (fun ρ' h' => g h' = true ∧ I (k + 1) ρ' h') R N (fun ρ' h' => g h' = true ∧ I (k + 1) ρ' h') X)
    {ρ : Env} {h : PH} (h0 : I 0 ρ h) (hd : ∀ ρ h, I xs.length ρ h → N ρ h) : (forS turn g (enumD 0 xs) ρ h).W N R B C X := by
  refine forI_W I (enumD 0 xs) (fun k x ρ h e i => ?_) h0 fun ρ h i => hd ρ h (by rw [enumD_len] at i; exact i)
  rw [enumD_get] at e
  cases q : xs[k]? with
  | none => rw [q] at e; cases e
  | some d =>
    rw [q] at e
    cases e
    have := ht k d ρ h q i
    simpa using this
theorem zipD_get : ∀ (xs ys : List D) (k : Nat) (x : D), (zipD xs ys)[k]? = some x → ∃ a b, xs[k]? = some a ∧ ys[k]? = some b ∧ x = .tup [a, b]
  | a :: as, b :: bs, 0, x, e => by
    have : x = .tup [a, b] := by simpa [zipD] using e.symm
    exact ⟨a, b, rfl, rfl, this⟩
  | a :: as, b :: bs, k + 1, x, e => by
    obtain ⟨a', b', h1, h2, h3⟩ := zipD_get as bs k x (by simpa [zipD] using e)
    exact ⟨a', b', by simpa using h1, by simpa using h2, h3⟩
  | [], _, k, x, e => by simp [zipD] at e
  | _ :: _, [], k, x, e => by simp [zipD] at e
theorem zipD_len : ∀ (xs ys : List D), (zipD xs ys).length = min xs.length ys.length
  | a :: as, b :: bs => by show (zipD as bs).length + 1 = _; rw [zipD_len as bs]; simp
  | [], _ => by simp [zipD]
  | _ :: _, [] => by simp [zipD]
/-- for k in range(lo, lo + n) -/
theorem forR_W {turn : D → Env → PH → SRes} {g : PH → Bool} {N R B C : _} {X : Nat → Env → PH → Prop} (I : Nat → Env → PH → Prop) (lo : Int) (n : Nat)
    (ht : ∀ (k : Nat) ρ h, k < n → I k ρ h → (turn (.int (lo + k)) ρ h).W (fun ρ' h' => g h' = true ∧ I (k + 1) ρ' h') R N (fun ρ' h' => g h' = true ∧ I (k + 1) ρ' h') X)
    {ρ : Env} {h : PH} (h0 : I 0 ρ h) (hd : ∀ ρ h, I n ρ h → N ρ h) : (forS turn g (rngD lo n) ρ h).W N R B C X := by
  refine forI_W I (rngD lo n) (fun k x ρ h e i => ?_) h0 fun ρ h i => hd ρ h (by rw [rngD_len] at i; exact i)
  unfold rngD at e
  rw [List.getElem?_map] at e
  by_cases hk : k < n
  · rw [List.getElem?_range hk] at e
    cases e
    exact ht k ρ h hk i
  · rw [List.getElem?_eq_none (by simpa using hk)] at e
    cases e
/-- a comprehension of which only what holds of each item is said -/
theorem lcS_any {turn : D → PH → Res (Option D)} {g : PH → Bool} {P : List D → PH → Prop} {X : Nat → PH → Prop} (Q : D → Prop) (I : PH → Prop) :
    ∀ (xs acc : List D) (h : PH), (∀ x ∈ xs, ∀ h, I h → (turn x h).W (fun o h' => (∀ d, o = some d → Q d) ∧ g h' = true ∧ I h') (fun _ _ => False)) → I h → acc.length + xs.length ≤ mx → (∀ d ∈ acc, Q d) →
      (∀ ys h', I h' → (∀ d ∈ ys, Q d) → ys.length ≤ acc.length + xs.length → P ys h') → (lcS turn g xs acc h).W P X
  | [], acc, h, ht, i, l, q, hd => hd acc h i q (by simp)
  | x :: xs, acc, h, ht, i, l, q, hd => by
    have w := ht x List.mem_cons_self h i
    unfold lcS
    have ll : acc.length + (xs.length + 1) ≤ mx := by simpa using l
    cases e : turn x h with
    | stk => rw [e] at w; exact w.elim
    | exc c h' => rw [e] at w; exact w.elim
    | ok o h' =>
      rw [e] at w
      obtain ⟨e1, e2, i2⟩ := w
      cases o with
      | some d =>
        show (if g h' = true ∧ acc.length < mx then lcS turn g xs (acc ++ [d]) h' else .stk).W P X
        rw [if_pos ⟨e2, by omega⟩]
        refine lcS_any Q I xs (acc ++ [d]) h' (fun x hx => ht x (List.mem_cons_of_mem _ hx)) i2 (by simp; omega) (fun y hy => ?_) fun ys h2 i3 q2 l2 => hd ys h2 i3 q2 (by simp at l2 ⊢; omega)
        rcases List.mem_append.mp hy with z | z
        · exact q y z
        · rw [List.mem_singleton.mp z]; exact e1 d rfl
      | none =>
        show (if g h' = true then lcS turn g xs acc h' else .stk).W P X
        rw [if_pos e2]
        exact lcS_any Q I xs acc h' (fun x hx => ht x (List.mem_cons_of_mem _ hx)) i2 (by omega) q fun ys h2 i3 q2 l2 => hd ys h2 i3 q2 (by simp; omega)
theorem mxd_ge : ∀ (is : List Int) (d : Int), ∀ x ∈ is, x ≤ mxd d is
  | [], d, x, h => by simp at h
  | i :: r, d, x, h => by
    show x ≤ r.foldl max i
    have gen : ∀ (r : List Int) (i : Int), i ≤ r.foldl max i ∧ ∀ x ∈ r, x ≤ r.foldl max i := by
      intro r
      induction r with
      | nil => intro i; exact ⟨Int.le_refl _, fun x h => by simp at h⟩
      | cons j r ih =>
        intro i
        obtain ⟨a, b⟩ := ih (max i j)
        refine ⟨Int.le_trans (Int.le_max_left ..) a, fun x hx => ?_⟩
        rcases List.mem_cons.mp hx with rfl | hx
        · exact Int.le_trans (Int.le_max_right ..) a
        · exact b x hx
    rcases List.mem_cons.mp h with rfl | h
    · exact (gen r _).1
    · exact (gen r i).2 x h
/-- the list of the law's ints by a number -/
abbrev bStream : Ss := (.cons (.asg (.name 2) (.lst .nil)) (.cons (.asg (.name 3) (.bin .fdiv (.var 0) (.cst (.int 2)))) (.cons (.whl (.and (.cmp .eq (.bin .mod (.var 0) (.cst (.int 2))) (.cst (.int 0))) (.and (.cmp .gt (.var 3) (.cst (.int 0))) (.cmp .lt (.bfn .len (.cons (.var 2) .nil)) (.var 1)))) (.cons (.ex (.met .append (.var 2) (.cons (.bin .mod (.var 3) (.bin .pow (.cst (.int 10)) (.cst (.int 9)))) .nil))) (.cons (.asg (.name 3) (.bin .fdiv (.var 3) (.bin .pow (.cst (.int 10)) (.cst (.int 9))))) .nil))) (.cons (.asg (.name 3) (.bin .mod (.bin .mul (.bin .add (.bin .fdiv (.var 0) (.cst (.int 2))) (.cst (.int 7919))) (.cst (.int 48271))) (.cst (.int 2147483647)))) (.cons (.for_ (.name 4) (.rng1 (.var 1)) (.cons (.asg (.name 3) (.bin .mod (.bin .mul (.var 3) (.bin .add (.bin .add (.bin .fdiv (.var 3) (.cst (.int 1009))) (.cst (.int 69621))) (.var 4))) (.cst (.int 2147483647)))) (.cons (.ex (.met .append (.var 2) (.cons (.var 3) .nil))) (.cons (.asg (.name 3) (.bin .add (.var 3) (.cst (.int 1)))) .nil)))) (.cons (.ret (.sl (.var 2) .no (.yes (.var 1)))) .nil))))))
local macro_rules | `(tactic| walk_at "wp") => `(tactic| simp -implicitDefEqProofs only [W_fin, s_nil, s_cons, s_pass, s_retN, s_asgn, s_asg, s_ex, s_ret, s_ife, s_aug, s_for, B_, e_cst, e_var, e_bin, e_neg, e_cmp, e_chain, chain_bl, e_and, e_or, e_not, e_ite, e_tup, e_lst, e_dct0, e_ix, e_sl, o_no, o_yes, es_nil, es_cons, e_call, e_bfn, e_met, i_seq, i_enum, i_zip, i_rng1, i_rng2, t_name, t_tup, t_sub, ts_nil, ts_cons, c_nil, c_one, e_lc, byT_bl, b_add, b_sub, c_lt, c_le, c_gt, c_ge, c_eqI, c_neI, x_tup, x_scr, item_0, item_1, item_2, item_3, item_4, f_lenT, sl_tup, List.getElem?_cons_zero, List.getElem?_cons_succ, List.set_cons_zero, List.set_cons_succ, List.nil_append, List.append_nil, List.cons_append, List.length_nil, List.length_cons])
section
variable {F : Fns} {P : D → PH → Prop} {X : Nat → PH → Prop} {h : PH}
theorem pw109 {Q : D → PH → Prop} : (binop .pow (.int 10) (.int 9) h).W Q X = Q (.int 1000000000) h := b_pow (by decide)
theorem pw106 {Q : D → PH → Prop} : (binop .pow (.int 10) (.int 6) h).W Q X = Q (.int 1000000) h := b_pow (by decide)
theorem s_whl_W {e : Ex} {b : Ss} {ρ : Env} {N R B C} {XS : Nat → Env → PH → Prop} (I : Env → PH → Prop) (m : Env → PH → Nat) (E : Env → PH → Prop)
    (hc : ∀ ρ h, I ρ h → (evE F e ρ h).W (fun x h' => byT h' x ((evSs F b ρ h').W (fun ρ' h2 => I ρ' h2 ∧ m ρ' h2 < m ρ h) R E (fun ρ' h2 => I ρ' h2 ∧ m ρ' h2 < m ρ h) XS) (E ρ h')) (fun c h => XS c ρ h))
    (hi : I ρ h) (hm : m ρ h < wlim) (hE : ∀ ρ h, E ρ h → N ρ h) : (evS F (.whl e b) ρ h).W N R B C XS := by
  rw [s_whl]
  have := whlS_W (c := evB F e) (b := evSs F b) (N := E) (R := R) (B := B) (C := C) (X := XS) I m (fun ρ h i => ?_) wlim ρ h hi hm
  · exact SW_mono this hE (fun _ _ w => w) (fun _ _ w => w) (fun _ _ w => w) fun _ _ _ w => w
  · rw [B_]
    have := hc ρ h i
    simpa using this
theorem stream_W {c : Int} {m : Nat} (hm : m ≤ 1000) (k : ∀ (is : List Int) l h', is.length = m → (∀ i ∈ is, 0 ≤ i) → Pre h h' → h'[l]? = some (.lst (is.map D.int)) → h.length ≤ l → P (.ref l) h') :
    ((evSs F bStream [some (.int c), some (.int m), none, none, none] h).fin).W P X := by
  walk_at "wp"
  refine ⟨by decide, ?_⟩
  rw [b_fdivS (by decide) (by decide)]
  refine s_whl_W (fun ρ h' => ∃ (i : Int) (is : List Int), ρ = [some (.int c), some (.int m), some (.ref h.length), some (.int i), none] ∧ is.length ≤ m ∧ (∀ i ∈ is, 0 ≤ i) ∧ Pre h h' ∧ h'[h.length]? = some (.lst (is.map D.int)))
    (fun ρ h' => match h'[h.length]? with | some (.lst ds) => m - ds.length | _ => 0)
    (fun ρ h' => ∃ (i : Int) (is : List Int), ρ = [some (.int c), some (.int m), some (.ref h.length), some (.int i), none] ∧ is.length ≤ m ∧ (∀ i ∈ is, 0 ≤ i) ∧ Pre h h' ∧ h'[h.length]? = some (.lst (is.map D.int))) ?_ ⟨c / 2, [], rfl, Nat.zero_le _, (fun _ h => by simp at h), Pre.refl.app _, by simp⟩ ?_ ?_
  · intro ρ h' ⟨i, is, e, l1, p1, p2, p3⟩
    subst e
    walk_at "wp"
    rw [b_mod (by decide)]
    walk_at "wp"
    simp only [f_lenL p3, pw109]
    walk_at "wp"
    simp only [List.length_map]
    have fin : ∃ (i' : Int) (is' : List Int), [some (D.int c), some (.int m), some (.ref h.length), some (.int i), none] = [some (.int c), some (.int m), some (.ref h.length), some (.int i'), none] ∧ is'.length ≤ m ∧ (∀ i ∈ is', 0 ≤ i) ∧ Pre h h' ∧ h'[h.length]? = some (.lst (is'.map D.int)) := ⟨i, is, rfl, l1, p1, p2, p3⟩
    by_cases c0 : c % 2 = 0
    · by_cases c1 : 0 < i
      · by_cases c2 : (is.length : Int) < (m : Int)
        · have c2' : is.length < m := by omega
          simp only [c0, c1, c2, decide_true, if_true]
          simp only [m_app p3]
          walk_at "wp"
          simp only [b_mod (show (0 : Int) < 1000000000 by decide), pw109]
          rw [m_append p3]
          rw [b_fdivS (by decide) (by decide)]
          refine ⟨by simp [mx]; omega, ⟨i / 1000000000, is ++ [i % 1000000000], rfl, by simp; omega, ?_, p2.set (Nat.le_refl _) _, by rw [get_set p3]; simp⟩, ?_⟩
          · intro j hj
            rcases List.mem_append.mp hj with hj | hj
            · exact p1 j hj
            · rw [List.mem_singleton.mp hj]; exact Int.emod_nonneg _ (by decide)
          · rw [get_set p3, p3]
            simp; omega
        · simp only [c0, c1, c2, decide_true, decide_false, if_true, Bool.false_eq_true, if_false]
          exact fin
      · simp only [c0, c1, decide_true, decide_false, if_true, Bool.false_eq_true, if_false]
        exact fin
    · simp only [c0, decide_false, Bool.false_eq_true, if_false]
      exact fin
  · simp [wlim]; omega
  · intro ρ h' ⟨i, is, e, l1, p1, p2, p3⟩
    subst e
    walk_at "wp"
    rw [b_fdivS (by decide) (by decide)]
    walk_at "wp"
    rw [b_mulR (by decide) (by decide)]
    rw [b_mod (by decide)]
    rw [rngW_ok (by decide) (by decide) (by omega) (by omega)]
    have e0 : ((m : Int) - 0).toNat = m := by omega
    rw [e0]
    refine forR_W (fun k ρ h' => ∃ (i : Int) (z : Option D) (is : List Int), ρ = [some (.int c), some (.int m), some (.ref h.length), some (.int i), z] ∧ 0 ≤ i ∧ i ≤ 2147483648 ∧ is.length ≤ m + k ∧ k ≤ is.length ∧ (∀ i ∈ is, 0 ≤ i) ∧ Pre h h' ∧ h'[h.length]? = some (.lst (is.map D.int))) 0 m ?_ ?_ ?_
    · intro k ρ h' hk ⟨i, z, is, e, i0, i1, q1, q2, q3, q4, q5⟩
      subst e
      rw [turn_W]
      walk_at "wp"
      rw [b_fdivS (by decide) (by decide)]
      walk_at "wp"
      rw [b_mulL (by omega) (by omega), b_mod (by decide)]
      have r0 := Int.emod_nonneg (i * (i / 1009 + 69621 + (0 + (k : Int)))) (show (2147483647 : Int) ≠ 0 by decide)
      have r1 := Int.emod_lt_of_pos (i * (i / 1009 + 69621 + (0 + (k : Int)))) (show (0 : Int) < 2147483647 by decide)
      generalize i * (i / 1009 + 69621 + (0 + (k : Int))) % 2147483647 = r at r0 r1
      simp only [m_app q5]
      walk_at "wp"
      rw [m_append q5]
      refine ⟨by simp [mx]; omega, kept_nil, r + 1, _, is ++ [r], rfl, by omega, by omega, by simp; omega, by simp; omega, ?_, q4.set (Nat.le_refl _) _, by rw [get_set q5]; simp⟩
      intro j hj
      rcases List.mem_append.mp hj with hj | hj
      · exact q3 j hj
      · rw [List.mem_singleton.mp hj]; exact r0
    · refine ⟨_, none, is, rfl, Int.emod_nonneg _ (by decide), ?_, l1, Nat.zero_le _, p1, p2, p3⟩
      have := Int.emod_lt_of_pos ((c / 2 + 7919) * 48271) (show (0 : Int) < 2147483647 by decide)
      omega
    · intro ρ h' ⟨i, z, is, e, i0, i1, q1, q2, q3, q4, q5⟩
      subst e
      walk_at "wp"
      rw [sl_lst (lst_ref q5), cut_to, ← List.map_take]
      refine k (is.take m) _ _ (by simp; omega) (fun i hi => q3 i (List.mem_of_mem_take hi)) (q4.app _) get_new q4.len
end
end Mp.Wp

set_option Elab.async false
set_option linter.all false
set_option maxRecDepth 100000
set_option maxHeartbeats 4000000
namespace Q41
open Mp
/-- _wall: 0 k -/
abbrev b0 : Ss := (.cons (.whl (.cst (.bl true)) (.cons .pass .nil)) .nil)
/-- is_read_of_put: 0 term -/
abbrev b1 : Ss := (.cons (.ret (.and (.cmp .eq (.ix (.var 0) (.cst (.int 0))) (.cst (.str "read"))) (.cmp .eq (.ix (.ix (.var 0) (.cst (.int 1))) (.cst (.int 0))) (.cst (.str "put"))))) .nil)
/-- hit: 0 read -/
abbrev b2 : Ss := (.cons (.ret (.ix (.ix (.var 0) (.cst (.int 1))) (.cst (.int 3)))) .nil)
/-- miss: 0 read -/
abbrev b3 : Ss := (.cons (.ret (.tup (.cons (.cst (.str "read")) (.cons (.ix (.ix (.var 0) (.cst (.int 1))) (.cst (.int 1))) (.cons (.ix (.var 0) (.cst (.int 2))) .nil))))) .nil)
/-- need: 0 read -/
abbrev b4 : Ss := (.cons (.ret (.tup (.cons (.cst (.str "same")) (.cons (.ix (.var 0) (.cst (.int 2))) (.cons (.ix (.ix (.var 0) (.cst (.int 1))) (.cst (.int 2))) .nil))))) .nil)
/-- is_whole: 0 thing -/
abbrev b5 : Ss := (.cons (.ret (.and (.bfn (.isi .int) (.cons (.var 0) .nil)) (.not (.bfn (.isi .bool) (.cons (.var 0) .nil))))) .nil)
/-- common: 0 one, 1 other -/
abbrev b6 : Ss := (.cons (.whl (.cmp .ne (.var 1) (.cst (.int 0))) (.cons (.par 0 1 (.var 1) (.bin .mod (.var 0) (.var 1))) .nil)) (.cons (.ret (.bfn .abs (.cons (.var 0) .nil))) .nil))
/-- is_fraction: 0 thing, 1 top, 2 bottom -/
abbrev b7 : Ss := (.cons (.ife (.or (.not (.bfn (.isi .tuple) (.cons (.var 0) .nil))) (.cmp .ne (.bfn .len (.cons (.var 0) .nil)) (.cst (.int 2)))) (.cons (.ret (.cst (.bl false))) .nil) .nil) (.cons (.asg (.tup (.cons (.name 1) (.cons (.name 2) .nil))) (.var 0)) (.cons (.ret (.and (.call 5 (.cons (.var 1) .nil) []) (.and (.call 5 (.cons (.var 2) .nil) []) (.and (.cmp .gt (.var 2) (.cst (.int 0))) (.cmp .eq (.call 6 (.cons (.var 1) (.cons (.var 2) .nil)) []) (.cst (.int 1))))))) .nil)))
/-- is_name: 0 thing, 1 sign -/
abbrev b8 : Ss := (.cons (.ife (.or (.not (.bfn (.isi .str) (.cons (.var 0) .nil))) (.not (.chain .le .le (.cst (.int 1)) (.bfn .len (.cons (.var 0) .nil)) (.cst (.int 8))))) (.cons (.ret (.cst (.bl false))) .nil) .nil) (.cons (.ret (.bfn .all (.cons (.lc (.cmp .ein (.var 1) (.cst (.str "abcdefghijklmnopqrstuvwxyz"))) (.name 1) (.seq (.var 0)) .nil [1]) .nil))) .nil))
/-- is_stretch: 0 thing -/
abbrev b9 : Ss := (.cons (.ife (.or (.not (.bfn (.isi .tuple) (.cons (.var 0) .nil))) (.or (.cmp .ne (.bfn .len (.cons (.var 0) .nil)) (.cst (.int 3))) (.not (.call 8 (.cons (.ix (.var 0) (.cst (.int 0))) .nil) [])))) (.cons (.ret (.cst (.bl false))) .nil) .nil) (.cons (.ife (.or (.not (.call 5 (.cons (.ix (.var 0) (.cst (.int 1))) .nil) [])) (.not (.call 5 (.cons (.ix (.var 0) (.cst (.int 2))) .nil) []))) (.cons (.ret (.cst (.bl false))) .nil) .nil) (.cons (.ret (.chain .le .le (.ix (.var 0) (.cst (.int 1))) (.ix (.var 0) (.cst (.int 2))) (.bin .add (.ix (.var 0) (.cst (.int 1))) (.cst (.int 60))))) .nil)))
/-- is_kind: 0 thing -/
abbrev b10 : Ss := (.cons (.ret (.and (.bfn (.isi .str) (.cons (.var 0) .nil)) (.cmp .ein (.var 0) (.tup (.cons (.cst (.str "num")) (.cons (.cst (.str "thing")) .nil)))))) .nil)
/-- is_function: 0 thing, 1 kinds, 2 kind -/
abbrev b11 : Ss := (.cons (.ife (.or (.not (.bfn (.isi .tuple) (.cons (.var 0) .nil))) (.or (.cmp .ne (.bfn .len (.cons (.var 0) .nil)) (.cst (.int 3))) (.or (.not (.call 8 (.cons (.ix (.var 0) (.cst (.int 0))) .nil) [])) (.not (.call 10 (.cons (.ix (.var 0) (.cst (.int 2))) .nil) []))))) (.cons (.ret (.cst (.bl false))) .nil) .nil) (.cons (.asg (.name 1) (.ix (.var 0) (.cst (.int 1)))) (.cons (.ret (.and (.bfn (.isi .tuple) (.cons (.var 1) .nil)) (.and (.chain .le .le (.cst (.int 1)) (.bfn .len (.cons (.var 1) .nil)) (.cst (.int 3))) (.bfn .all (.cons (.lc (.call 10 (.cons (.var 2) .nil) []) (.name 2) (.seq (.var 1)) .nil [2]) .nil))))) .nil)))
/-- checked_list: 0 thing, 1 fits, 2 one -/
abbrev b12 : Ss := (.cons (.ife (.or (.not (.bfn (.isi .list) (.cons (.var 0) .nil))) (.not (.bfn .all (.cons (.lc (.callv 1 (.cons (.var 2) .nil)) (.name 2) (.seq (.var 0)) .nil [2]) .nil)))) (.cons .stk .nil) .nil) (.cons (.ret (.bfn .list (.cons (.var 0) .nil))) .nil))
/-- values_together: 0 stretches, 1 found, 2 name, 3 low, 4 high -/
abbrev b13 : Ss := (.cons (.asg (.name 1) (.cst (.int 1))) (.cons (.for_ (.tup (.cons (.name 2) (.cons (.name 3) (.cons (.name 4) .nil)))) (.seq (.var 0)) (.cons (.asg (.name 1) (.bin .mul (.var 1) (.bin .add (.bin .sub (.var 4) (.var 3)) (.cst (.int 1))))) .nil)) (.cons (.ret (.var 1)) .nil)))
/-- __init__: 0 self, 1 numbers, 2 wholes, 3 things, 4 functions, 5 arrays, 6 name, 7 one -/
abbrev b14 : Ss := (.cons (.sfd (.var 0) "number_names" (.call 12 (.cons (.var 1) (.cons (.cst (.fn 8)) .nil)) [])) (.cons (.sfd (.var 0) "stretches" (.call 12 (.cons (.var 2) (.cons (.cst (.fn 9)) .nil)) [])) (.cons (.ife (.cmp .gt (.call 13 (.cons (.fld (.var 0) "stretches") .nil) []) (.cst (.int 3600))) (.cons .stk .nil) .nil) (.cons (.sfd (.var 0) "thing_names" (.call 12 (.cons (.var 3) (.cons (.cst (.fn 8)) .nil)) [])) (.cons (.sfd (.var 0) "makers" (.call 12 (.cons (.var 4) (.cons (.cst (.fn 11)) .nil)) [])) (.cons (.sfd (.var 0) "array_names" (.call 12 (.cons (.var 5) (.cons (.cst (.fn 8)) .nil)) [])) (.cons (.sfd (.var 0) "kinds" (.dct .nil .nil)) (.cons (.ex (.umt (.var 0) "note" (.cons (.lc (.tup (.cons (.var 6) (.cons (.cst (.str "num")) .nil))) (.name 6) (.seq (.fld (.var 0) "number_names")) .nil [6]) .nil))) (.cons (.ex (.umt (.var 0) "note" (.cons (.lc (.tup (.cons (.ix (.var 7) (.cst (.int 0))) (.cons (.cst (.str "num")) .nil))) (.name 7) (.seq (.fld (.var 0) "stretches")) .nil [7]) .nil))) (.cons (.ex (.umt (.var 0) "note" (.cons (.lc (.tup (.cons (.var 6) (.cons (.cst (.str "thing")) .nil))) (.name 6) (.seq (.fld (.var 0) "thing_names")) .nil [6]) .nil))) (.cons (.ex (.umt (.var 0) "note" (.cons (.lc (.tup (.cons (.ix (.var 7) (.cst (.int 0))) (.cons (.cst (.str "function")) .nil))) (.name 7) (.seq (.fld (.var 0) "makers")) .nil [7]) .nil))) (.cons (.ex (.umt (.var 0) "note" (.cons (.lc (.tup (.cons (.var 6) (.cons (.cst (.str "array")) .nil))) (.name 6) (.seq (.fld (.var 0) "array_names")) .nil [6]) .nil))) .nil))))))))))))
/-- note: 0 self, 1 pairs, 2 name, 3 kind -/
abbrev b15 : Ss := (.cons (.for_ (.tup (.cons (.name 2) (.cons (.name 3) .nil))) (.seq (.var 1)) (.cons (.ife (.cmp .ein (.var 2) (.fld (.var 0) "kinds")) (.cons .stk .nil) .nil) (.cons (.asg (.sub (.fld (.var 0) "kinds") (.var 2)) (.var 3)) .nil))) .nil)
/-- all_numbers: 0 self -/
abbrev b16 : Ss := (.cons (.ex (.call 0 (.cons (.cst (.int 0)) .nil) [])) .nil)
/-- all_wholes: 0 self -/
abbrev b17 : Ss := (.cons (.ex (.call 0 (.cons (.cst (.int 1)) .nil) [])) .nil)
/-- all_things: 0 self -/
abbrev b18 : Ss := (.cons (.ex (.call 0 (.cons (.cst (.int 2)) .nil) [])) .nil)
/-- all_functions: 0 self -/
abbrev b19 : Ss := (.cons (.ex (.call 0 (.cons (.cst (.int 3)) .nil) [])) .nil)
/-- all_arrays: 0 self -/
abbrev b20 : Ss := (.cons (.ex (.call 0 (.cons (.cst (.int 4)) .nil) [])) .nil)
/-- kind: 0 self, 1 name, 2 found -/
abbrev b21 : Ss := (.cons (.asg (.name 2) (.met .get1 (.fld (.var 0) "kinds") (.cons (.var 1) .nil))) (.cons (.ife (.cmp .eq (.var 2) (.cst (.str "function"))) (.cons (.ret (.cst .non)) .nil) .nil) (.cons (.ret (.var 2)) .nil)))
/-- bounds: 0 self, 1 name, 2 one, 3 low, 4 high -/
abbrev b22 : Ss := (.cons (.for_ (.tup (.cons (.name 2) (.cons (.name 3) (.cons (.name 4) .nil)))) (.seq (.fld (.var 0) "stretches")) (.cons (.ife (.cmp .eq (.var 2) (.var 1)) (.cons (.ret (.tup (.cons (.var 3) (.cons (.var 4) .nil)))) .nil) .nil) .nil)) (.cons (.ret (.cst .non)) .nil))
/-- function: 0 self, 1 name, 2 one, 3 kinds, 4 kind -/
abbrev b23 : Ss := (.cons (.for_ (.tup (.cons (.name 2) (.cons (.name 3) (.cons (.name 4) .nil)))) (.seq (.fld (.var 0) "makers")) (.cons (.ife (.cmp .eq (.var 2) (.var 1)) (.cons (.ret (.tup (.cons (.var 3) (.cons (.var 4) .nil)))) .nil) .nil) .nil)) (.cons (.ret (.cst .non)) .nil))
/-- may_hold: 0 thing, 1 inner, 2 one -/
abbrev b24 : Ss := (.cons (.ife (.or (.not (.bfn (.isi .tuple) (.cons (.var 0) .nil))) (.or (.cmp .eq (.var 0) (.tup .nil)) (.not (.bfn (.isi .str) (.cons (.ix (.var 0) (.cst (.int 0))) .nil))))) (.cons (.ret (.lst .nil)) .nil) .nil) (.cons (.ife (.cmp .ein (.ix (.var 0) (.cst (.int 0))) (.tup (.cons (.cst (.str "number")) (.cons (.cst (.str "unknown")) .nil)))) (.cons (.ret (.lst .nil)) .nil) .nil) (.cons (.ife (.cmp .ein (.ix (.var 0) (.cst (.int 0))) (.tup (.cons (.cst (.str "weigh")) (.cons (.cst (.str "call")) .nil)))) (.cons (.asg (.name 1) (.sl (.var 0) (.yes (.cst (.int 2))) (.yes (.cst (.int 3))))) .nil) (.cons (.asg (.name 1) (.sl (.var 0) (.yes (.cst (.int 1))) .no)) .nil)) (.cons (.ife (.and (.cmp .ein (.ix (.var 0) (.cst (.int 0))) (.tup (.cons (.cst (.str "plus")) (.cons (.cst (.str "call")) (.cons (.cst (.str "and")) (.cons (.cst (.str "or")) .nil)))))) (.and (.cmp .ne (.var 1) (.tup .nil)) (.bfn (.isi .tuple) (.cons (.ix (.var 1) (.cst (.int 0))) .nil)))) (.cons (.asg (.name 1) (.ix (.var 1) (.cst (.int 0)))) .nil) .nil) (.cons (.ret (.lc (.var 2) (.name 2) (.seq (.var 1)) (.cons (.bfn (.isi .tuple) (.cons (.var 2) .nil)) .nil) [2])) .nil)))))
/-- is_too_deep: 0 thing, 1 layer, 2 depth, 3 after, 4 one -/
abbrev b25 : Ss := (.cons (.asg (.name 1) (.lst (.cons (.var 0) .nil))) (.cons (.for_ (.name 2) (.rng1 (.cst (.int 12))) (.cons (.asg (.name 3) (.lst .nil)) (.cons (.for_ (.name 4) (.seq (.var 1)) (.cons (.ex (.met .extend (.var 3) (.cons (.call 24 (.cons (.var 4) .nil) []) .nil))) .nil)) (.cons (.asg (.name 1) (.var 3)) .nil)))) (.cons (.ret (.cmp .ne (.var 1) (.lst .nil))) .nil)))
/-- check_kind: 0 names, 1 term, 2 kind -/
abbrev b26 : Ss := (.cons (.ife (.cmp .ne (.call 30 (.cons (.var 0) (.cons (.var 1) .nil)) []) (.var 2)) (.cons .stk .nil) .nil) .nil)
/-- kind_of_call: 0 names, 1 name, 2 terms, 3 known, 4 term, 5 kind -/
abbrev b27 : Ss := (.cons (.asg (.name 3) (.cst .non)) (.cons (.ife (.call 8 (.cons (.var 1) .nil) []) (.cons (.asg (.name 3) (.umt (.var 0) "function" (.cons (.var 1) .nil))) .nil) .nil) (.cons (.ife (.or (.cmp .isN (.var 3) (.cst .non)) (.or (.not (.bfn (.isi .tuple) (.cons (.var 2) .nil))) (.cmp .ne (.bfn .len (.cons (.var 2) .nil)) (.bfn .len (.cons (.ix (.var 3) (.cst (.int 0))) .nil))))) (.cons .stk .nil) .nil) (.cons (.for_ (.tup (.cons (.name 4) (.cons (.name 5) .nil))) (.zip (.var 2) (.ix (.var 3) (.cst (.int 0)))) (.cons (.ex (.call 26 (.cons (.var 0) (.cons (.var 4) (.cons (.var 5) .nil))) [])) .nil)) (.cons (.ret (.ix (.var 3) (.cst (.int 1)))) .nil)))))
/-- kind_of_unknown: 0 names, 1 name, 2 kind -/
abbrev b28 : Ss := (.cons (.asg (.name 2) (.cst .non)) (.cons (.ife (.call 8 (.cons (.var 1) .nil) []) (.cons (.asg (.name 2) (.umt (.var 0) "kind" (.cons (.var 1) .nil))) .nil) .nil) (.cons (.ife (.cmp .isN (.var 2) (.cst .non)) (.cons .stk .nil) .nil) (.cons (.ret (.var 2)) .nil))))
/-- kind_of: 0 names, 1 term -/
abbrev b29 : Ss := (.cons (.ife (.call 25 (.cons (.var 1) .nil) []) (.cons .stk .nil) .nil) (.cons (.ret (.call 30 (.cons (.var 0) (.cons (.var 1) .nil)) [])) .nil))
/-- kind_within: 0 names, 1 term, 2 word, 3 one -/
abbrev b30 : Ss := (.cons (.ife (.or (.not (.bfn (.isi .tuple) (.cons (.var 1) .nil))) (.or (.cmp .eq (.var 1) (.tup .nil)) (.not (.bfn (.isi .str) (.cons (.ix (.var 1) (.cst (.int 0))) .nil))))) (.cons .stk .nil) .nil) (.cons (.asg (.name 2) (.ix (.var 1) (.cst (.int 0)))) (.cons (.ife (.cmp .ne (.cdct [("number", (.int 2)), ("unknown", (.int 2)), ("weigh", (.int 3)), ("plus", (.int 2)), ("call", (.int 3)), ("read", (.int 3)), ("put", (.int 4))] (.var 2)) (.bfn .len (.cons (.var 1) .nil))) (.cons .stk .nil) .nil) (.cons (.ife (.cmp .eq (.var 2) (.cst (.str "unknown"))) (.cons (.ret (.call 28 (.cons (.var 0) (.cons (.ix (.var 1) (.cst (.int 1))) .nil)) [])) .nil) .nil) (.cons (.ife (.cmp .eq (.var 2) (.cst (.str "call"))) (.cons (.ret (.call 27 (.cons (.var 0) (.cons (.ix (.var 1) (.cst (.int 1))) (.cons (.ix (.var 1) (.cst (.int 2))) .nil))) [])) .nil) .nil) (.cons (.ife (.cmp .eq (.var 2) (.cst (.str "put"))) (.cons (.ex (.call 26 (.cons (.var 0) (.cons (.ix (.var 1) (.cst (.int 1))) (.cons (.cst (.str "array")) .nil))) [])) (.cons (.ex (.call 26 (.cons (.var 0) (.cons (.ix (.var 1) (.cst (.int 2))) (.cons (.cst (.str "num")) .nil))) [])) (.cons (.ex (.call 26 (.cons (.var 0) (.cons (.ix (.var 1) (.cst (.int 3))) (.cons (.cst (.str "num")) .nil))) [])) (.cons (.ret (.cst (.str "array"))) .nil)))) .nil) (.cons (.ife (.cmp .eq (.var 2) (.cst (.str "read"))) (.cons (.ex (.call 26 (.cons (.var 0) (.cons (.ix (.var 1) (.cst (.int 1))) (.cons (.cst (.str "array")) .nil))) [])) (.cons (.ex (.call 26 (.cons (.var 0) (.cons (.ix (.var 1) (.cst (.int 2))) (.cons (.cst (.str "num")) .nil))) [])) .nil)) (.cons (.ife (.cmp .eq (.var 2) (.cst (.str "plus"))) (.cons (.ife (.not (.bfn (.isi .tuple) (.cons (.ix (.var 1) (.cst (.int 1))) .nil))) (.cons .stk .nil) .nil) (.cons (.for_ (.name 3) (.seq (.ix (.var 1) (.cst (.int 1)))) (.cons (.ex (.call 26 (.cons (.var 0) (.cons (.var 3) (.cons (.cst (.str "num")) .nil))) [])) .nil)) .nil)) (.cons (.ife (.not (.call 7 (.cons (.ix (.var 1) (.cst (.int 1))) .nil) [])) (.cons .stk .nil) (.cons (.ife (.cmp .eq (.var 2) (.cst (.str "weigh"))) (.cons (.ex (.call 26 (.cons (.var 0) (.cons (.ix (.var 1) (.cst (.int 2))) (.cons (.cst (.str "num")) .nil))) [])) .nil) .nil) .nil)) .nil)) .nil)) (.cons (.ret (.cst (.str "num"))) .nil))))))))
/-- check_atom: 0 names, 1 atom, 2 kinds -/
abbrev b31 : Ss := (.cons (.ife (.cmp .ne (.bfn .len (.cons (.var 1) .nil)) (.cst (.int 3))) (.cons .stk .nil) .nil) (.cons (.thru (.cons (.asg (.name 2) (.lst (.cons (.call 30 (.cons (.var 0) (.cons (.ix (.var 1) (.cst (.int 1))) .nil)) []) (.cons (.call 30 (.cons (.var 0) (.cons (.ix (.var 1) (.cst (.int 2))) .nil)) []) .nil)))) .nil)) (.cons (.ife (.and (.cmp .ne (.var 2) (.lst (.cons (.cst (.str "num")) (.cons (.cst (.str "num")) .nil)))) (.or (.cmp .ne (.ix (.var 1) (.cst (.int 0))) (.cst (.str "same"))) (.cmp .ne (.var 2) (.lst (.cons (.cst (.str "thing")) (.cons (.cst (.str "thing")) .nil)))))) (.cons .stk .nil) .nil) .nil)))
/-- check_statement: 0 names, 1 statement -/
abbrev b32 : Ss := (.cons (.ife (.call 25 (.cons (.var 1) .nil) []) (.cons .stk .nil) .nil) (.cons (.ex (.call 33 (.cons (.var 0) (.cons (.var 1) .nil)) [])) .nil))
/-- check_within: 0 names, 1 statement, 2 word, 3 one -/
abbrev b33 : Ss := (.cons (.ife (.or (.not (.bfn (.isi .tuple) (.cons (.var 1) .nil))) (.or (.cmp .eq (.var 1) (.tup .nil)) (.not (.bfn (.isi .str) (.cons (.ix (.var 1) (.cst (.int 0))) .nil))))) (.cons .stk .nil) .nil) (.cons (.asg (.name 2) (.ix (.var 1) (.cst (.int 0)))) (.cons (.ife (.cmp .ein (.var 2) (.cst (.tup [(.str "atmost"), (.str "below"), (.str "same")]))) (.cons (.ex (.call 31 (.cons (.var 0) (.cons (.var 1) .nil)) [])) .nil) (.cons (.ife (.and (.cmp .eq (.var 2) (.cst (.str "not"))) (.cmp .eq (.bfn .len (.cons (.var 1) .nil)) (.cst (.int 2)))) (.cons (.ex (.call 33 (.cons (.var 0) (.cons (.ix (.var 1) (.cst (.int 1))) .nil)) [])) .nil) (.cons (.ife (.and (.cmp .ein (.var 2) (.tup (.cons (.cst (.str "and")) (.cons (.cst (.str "or")) .nil)))) (.and (.cmp .eq (.bfn .len (.cons (.var 1) .nil)) (.cst (.int 2))) (.bfn (.isi .tuple) (.cons (.ix (.var 1) (.cst (.int 1))) .nil)))) (.cons (.for_ (.name 3) (.seq (.ix (.var 1) (.cst (.int 1)))) (.cons (.ex (.call 33 (.cons (.var 0) (.cons (.var 3) .nil)) [])) .nil)) .nil) (.cons .stk .nil)) .nil)) .nil)) .nil)))
/-- _law_cell_at: 0 _law_script, 1 _law_k -/
abbrev b34 : Ss := (.cons (.ife (.cmp .lt (.var 1) (.bfn .len (.cons (.var 0) .nil))) (.cons (.ret (.ix (.var 0) (.var 1))) .nil) .nil) (.cons (.ret (.cst (.int 0))) .nil))
/-- _law_stream: 0 _law_cell, 1 _law_many, 2 _law_found, 3 _law_left, 4 _law_number, 5 _law_step -/
abbrev b35 : Ss := (.cons (.asg (.name 2) (.lst .nil)) (.cons (.asg (.name 3) (.bin .fdiv (.var 0) (.cst (.int 1000)))) (.cons (.whl (.and (.cmp .lt (.bfn .len (.cons (.var 2) .nil)) (.var 1)) (.cmp .gt (.var 3) (.cst (.int 0)))) (.cons (.ex (.met .append (.var 2) (.cons (.bin .mod (.var 3) (.bin .pow (.cst (.int 10)) (.cst (.int 9)))) .nil))) (.cons (.asg (.name 3) (.bin .fdiv (.var 3) (.bin .pow (.cst (.int 10)) (.cst (.int 9))))) .nil))) (.cons (.asg (.name 4) (.bin .mod (.bin .mul (.bin .add (.var 0) (.cst (.int 1))) (.cst (.int 48271))) (.cst (.int 2147483647)))) (.cons (.whl (.cmp .lt (.bfn .len (.cons (.var 2) .nil)) (.var 1)) (.cons (.asg (.name 5) (.bin .add (.bin .add (.var 4) (.bin .mul (.cst (.int 7919)) (.bfn .len (.cons (.var 2) .nil)))) (.cst (.int 1)))) (.cons (.asg (.name 4) (.bin .mod (.bin .mul (.var 5) (.bin .add (.bin .fdiv (.var 4) (.cst (.int 1009))) (.cst (.int 69621)))) (.cst (.int 2147483647)))) (.cons (.ex (.met .append (.var 2) (.cons (.bin .mod (.bin .mul (.var 4) (.bin .add (.bin .fdiv (.var 4) (.cst (.int 2003))) (.cst (.int 40009)))) (.cst (.int 2147483629))) .nil))) .nil)))) (.cons (.ret (.rev (.var 2))) .nil))))))
/-- _law_draw: 0 _law_xs -/
abbrev b36 : Ss := (.cons (.ife (.cmp .eq (.var 0) (.lst .nil)) (.cons (.ret (.cst (.int 0))) .nil) .nil) (.cons (.ret (.met .pop (.var 0) .nil)) .nil))
/-- _law_fraction: 0 _law_number, 1 _law_top, 2 _law_bottom -/
abbrev b37 : Ss := (.cons (.asg (.name 1) (.bin .sub (.bin .mod (.var 0) (.cst (.int 13))) (.cst (.int 6)))) (.cons (.asg (.name 2) (.ix (.lst (.cons (.cst (.int 1)) (.cons (.cst (.int 1)) (.cons (.cst (.int 2)) (.cons (.cst (.int 3)) .nil))))) (.bin .mod (.bin .fdiv (.var 0) (.cst (.int 13))) (.cst (.int 4))))) (.cons (.ife (.and (.cmp .gt (.var 2) (.cst (.int 1))) (.cmp .eq (.bin .mod (.var 1) (.var 2)) (.cst (.int 0)))) (.cons (.ret (.tup (.cons (.bin .fdiv (.var 1) (.var 2)) (.cons (.cst (.int 1)) .nil)))) .nil) .nil) (.cons (.ret (.tup (.cons (.var 1) (.cons (.var 2) .nil)))) .nil))))
/-- _law_term: 0 _law_xs, 1 _law_deep, 2 _law_number, 3 _law_way, 4 _law_array_here, 5 _law_one -/
abbrev b38 : Ss := (.cons (.asg (.name 2) (.call 36 (.cons (.var 0) .nil) [])) (.cons (.asg (.name 3) (.bin .mod (.var 2) (.cst (.int 9)))) (.cons (.ife (.or (.cmp .lt (.var 1) (.cst (.int 1))) (.cmp .lt (.var 3) (.cst (.int 3)))) (.cons (.ret (.tup (.cons (.cst (.str "unknown")) (.cons (.ix (.lst (.cons (.cst (.str "x")) (.cons (.cst (.str "y")) (.cons (.cst (.str "z")) (.cons (.cst (.str "n")) .nil))))) (.bin .mod (.bin .fdiv (.var 2) (.cst (.int 9))) (.cst (.int 4)))) .nil)))) .nil) .nil) (.cons (.ife (.cmp .eq (.var 3) (.cst (.int 3))) (.cons (.ret (.tup (.cons (.cst (.str "number")) (.cons (.call 37 (.cons (.bin .fdiv (.var 2) (.cst (.int 9))) .nil) []) .nil)))) .nil) .nil) (.cons (.ife (.cmp .eq (.var 3) (.cst (.int 4))) (.cons (.ret (.tup (.cons (.cst (.str "weigh")) (.cons (.call 37 (.cons (.bin .fdiv (.var 2) (.cst (.int 9))) .nil) []) (.cons (.call 38 (.cons (.var 0) (.cons (.bin .sub (.var 1) (.cst (.int 1))) .nil)) []) .nil))))) .nil) .nil) (.cons (.ife (.cmp .eq (.var 3) (.cst (.int 5))) (.cons (.ret (.tup (.cons (.cst (.str "call")) (.cons (.cst (.str "f")) (.cons (.tup (.cons (.call 38 (.cons (.var 0) (.cons (.bin .sub (.var 1) (.cst (.int 1))) .nil)) []) .nil)) .nil))))) .nil) .nil) (.cons (.ife (.cmp .lt (.var 3) (.cst (.int 8))) (.cons (.asg (.name 4) (.call 39 (.cons (.var 0) (.cons (.bin .sub (.var 1) (.cst (.int 1))) .nil)) [])) (.cons (.ret (.tup (.cons (.cst (.str "read")) (.cons (.var 4) (.cons (.call 38 (.cons (.var 0) (.cons (.bin .sub (.var 1) (.cst (.int 1))) .nil)) []) .nil))))) .nil)) .nil) (.cons (.asg (.name 5) (.call 38 (.cons (.var 0) (.cons (.bin .sub (.var 1) (.cst (.int 1))) .nil)) [])) (.cons (.ret (.tup (.cons (.cst (.str "plus")) (.cons (.tup (.cons (.var 5) (.cons (.call 38 (.cons (.var 0) (.cons (.bin .sub (.var 1) (.cst (.int 1))) .nil)) []) .nil))) .nil)))) .nil)))))))))
/-- _law_array: 0 _law_xs, 1 _law_deep, 2 _law_number, 3 _law_inner, 4 _law_place -/
abbrev b39 : Ss := (.cons (.asg (.name 2) (.call 36 (.cons (.var 0) .nil) [])) (.cons (.ife (.or (.cmp .lt (.var 1) (.cst (.int 1))) (.cmp .eq (.bin .mod (.var 2) (.cst (.int 3))) (.cst (.int 0)))) (.cons (.ret (.tup (.cons (.cst (.str "unknown")) (.cons (.ix (.lst (.cons (.cst (.str "a")) (.cons (.cst (.str "b")) .nil))) (.bin .mod (.bin .fdiv (.var 2) (.cst (.int 3))) (.cst (.int 2)))) .nil)))) .nil) .nil) (.cons (.asg (.name 3) (.call 39 (.cons (.var 0) (.cons (.bin .sub (.var 1) (.cst (.int 1))) .nil)) [])) (.cons (.asg (.name 4) (.call 38 (.cons (.var 0) (.cons (.bin .sub (.var 1) (.cst (.int 1))) .nil)) [])) (.cons (.ret (.tup (.cons (.cst (.str "put")) (.cons (.var 3) (.cons (.var 4) (.cons (.call 38 (.cons (.var 0) (.cons (.bin .sub (.var 1) (.cst (.int 2))) .nil)) []) .nil)))))) .nil)))))
/-- _law_read: 0 _law_cell, 1 _law_xs, 2 _law_array_here, 3 _law_k, 4 _law_place -/
abbrev b40 : Ss := (.cons (.asg (.name 1) (.call 35 (.cons (.var 0) (.cons (.cst (.int 150)) .nil)) [])) (.cons (.asg (.name 2) (.tup (.cons (.cst (.str "unknown")) (.cons (.ix (.lst (.cons (.cst (.str "a")) (.cons (.cst (.str "b")) .nil))) (.bin .mod (.var 0) (.cst (.int 2)))) .nil)))) (.cons (.for_ (.name 3) (.rng1 (.bin .mod (.bin .fdiv (.var 0) (.cst (.int 2))) (.cst (.int 5)))) (.cons (.asg (.name 4) (.call 38 (.cons (.var 1) (.cons (.bin .mod (.bin .fdiv (.var 0) (.cst (.int 10))) (.cst (.int 4))) .nil)) [])) (.cons (.asg (.name 2) (.tup (.cons (.cst (.str "put")) (.cons (.var 2) (.cons (.var 4) (.cons (.call 38 (.cons (.var 1) (.cons (.bin .mod (.bin .fdiv (.var 0) (.cst (.int 40))) (.cst (.int 4))) .nil)) []) .nil)))))) .nil))) (.cons (.ret (.tup (.cons (.cst (.str "read")) (.cons (.var 2) (.cons (.call 38 (.cons (.var 1) (.cons (.bin .mod (.bin .fdiv (.var 0) (.cst (.int 160))) (.cst (.int 4))) .nil)) []) .nil))))) .nil))))
/-- _law_is: 0 _law_names, 1 _law_term_here, 2 _law_turn -/
abbrev b41 : Ss := (.cons (.for_ (.name 2) (.rng1 (.cst (.int 2))) (.cons (.ife (.or (.cmp .ne (.call 2 (.cons (.var 1) .nil) []) (.ix (.ix (.var 1) (.cst (.int 1))) (.cst (.int 3)))) (.cmp .ne (.call 29 (.cons (.var 0) (.cons (.call 2 (.cons (.var 1) .nil) []) .nil)) []) (.cst (.str "num")))) (.cons (.ret (.cst (.bl false))) .nil) .nil) (.cons (.ife (.or (.cmp .ne (.call 3 (.cons (.var 1) .nil) []) (.tup (.cons (.cst (.str "read")) (.cons (.ix (.ix (.var 1) (.cst (.int 1))) (.cst (.int 1))) (.cons (.ix (.var 1) (.cst (.int 2))) .nil))))) (.cmp .ne (.call 29 (.cons (.var 0) (.cons (.call 3 (.cons (.var 1) .nil) []) .nil)) []) (.cst (.str "num")))) (.cons (.ret (.cst (.bl false))) .nil) .nil) (.cons (.ife (.or (.cmp .ne (.call 4 (.cons (.var 1) .nil) []) (.tup (.cons (.cst (.str "same")) (.cons (.ix (.var 1) (.cst (.int 2))) (.cons (.ix (.ix (.var 1) (.cst (.int 1))) (.cst (.int 2))) .nil))))) (.cmp .notN (.call 32 (.cons (.var 0) (.cons (.call 4 (.cons (.var 1) .nil) []) .nil)) []) (.cst .non))) (.cons (.ret (.cst (.bl false))) .nil) .nil) .nil)))) (.cons (.ret (.cst (.bl true))) .nil))
/-- law: 0 _law_script, 1 _law_names, 2 _law_cell, 3 _law_term_here, 4 _law_puts, 5 _law_k, 6 _law_other -/
abbrev b42 : Ss := (.cons (.asg (.name 1) (.mk 0 (.cons (.lst (.cons (.cst (.str "x")) (.cons (.cst (.str "y")) (.cons (.cst (.str "z")) .nil)))) (.cons (.lst (.cons (.tup (.cons (.cst (.str "n")) (.cons (.cst (.int 0)) (.cons (.cst (.int 3)) .nil)))) .nil)) (.cons (.lst .nil) (.cons (.lst (.cons (.tup (.cons (.cst (.str "f")) (.cons (.tup (.cons (.cst (.str "num")) .nil)) (.cons (.cst (.str "num")) .nil)))) .nil)) (.cons (.lst (.cons (.cst (.str "a")) (.cons (.cst (.str "b")) .nil))) .nil))))))) (.cons (.for_ (.name 2) (.seq (.bin .add (.sl (.var 0) .no (.yes (.cst (.int 8)))) (.lst (.cons (.cst (.int 0)) .nil)))) (.cons (.asg (.name 3) (.call 40 (.cons (.var 2) .nil) [])) (.cons (.asg (.name 4) (.bin .mod (.bin .fdiv (.var 2) (.cst (.int 2))) (.cst (.int 5)))) (.cons (.for_ (.name 5) (.rng1 (.var 4)) (.cons (.ife (.or (.cmp (.notB true) (.call 1 (.cons (.var 3) .nil) []) (.cst (.bl true))) (.not (.call 41 (.cons (.var 1) (.cons (.var 3) .nil)) []))) (.cons (.ret (.cst (.bl false))) .nil) .nil) (.cons (.asg (.name 3) (.call 3 (.cons (.var 3) .nil) [])) .nil))) (.cons (.ife (.or (.cmp (.notB false) (.call 1 (.cons (.var 3) .nil) []) (.cst (.bl false))) (.cmp .ne (.ix (.ix (.var 3) (.cst (.int 1))) (.cst (.int 0))) (.cst (.str "unknown")))) (.cons (.ret (.cst (.bl false))) .nil) .nil) (.cons (.for_ (.name 6) (.seq (.lst (.cons (.ix (.var 3) (.cst (.int 2))) (.cons (.tup (.cons (.cst (.str "unknown")) (.cons (.cst (.str "x")) .nil))) (.cons (.tup (.cons (.cst (.str "plus")) (.cons (.tup .nil) .nil))) (.cons (.tup (.cons (.cst (.str "number")) (.cons (.tup (.cons (.cst (.int 1)) (.cons (.cst (.int 2)) .nil))) .nil))) (.cons (.tup (.cons (.cst (.str "call")) (.cons (.cst (.str "f")) (.cons (.tup (.cons (.var 3) .nil)) .nil)))) .nil))))))) (.cons (.ife (.cmp .ne (.call 1 (.cons (.var 6) .nil) []) (.and (.cmp .eq (.ix (.var 6) (.cst (.int 0))) (.cst (.str "read"))) (.cmp .eq (.ix (.ix (.var 6) (.cst (.int 1))) (.cst (.int 0))) (.cst (.str "put"))))) (.cons (.ret (.cst (.bl false))) .nil) .nil) .nil)) .nil)))))) (.cons (.ret (.cst (.bl true))) .nil)))
abbrev cl : List CD := [⟨"Names", some 14, [("note", 15), ("all_numbers", 16), ("all_wholes", 17), ("all_things", 18), ("all_functions", 19), ("all_arrays", 20), ("kind", 21), ("bounds", 22), ("function", 23)], ["number_names", "stretches", "thing_names", "makers", "array_names", "kinds"]⟩]
def tb : Tb := mkTb [⟨1, 1, b0⟩, ⟨1, 1, b1⟩, ⟨1, 1, b2⟩, ⟨1, 1, b3⟩, ⟨1, 1, b4⟩, ⟨1, 1, b5⟩, ⟨2, 2, b6⟩, ⟨1, 3, b7⟩, ⟨1, 2, b8⟩, ⟨1, 1, b9⟩, ⟨1, 1, b10⟩, ⟨1, 3, b11⟩, ⟨2, 3, b12⟩, ⟨1, 5, b13⟩, ⟨6, 8, b14⟩, ⟨2, 4, b15⟩, ⟨1, 1, b16⟩, ⟨1, 1, b17⟩, ⟨1, 1, b18⟩, ⟨1, 1, b19⟩, ⟨1, 1, b20⟩, ⟨2, 3, b21⟩, ⟨2, 5, b22⟩, ⟨2, 5, b23⟩, ⟨1, 3, b24⟩, ⟨1, 5, b25⟩, ⟨3, 3, b26⟩, ⟨3, 6, b27⟩, ⟨2, 3, b28⟩, ⟨2, 2, b29⟩, ⟨2, 4, b30⟩, ⟨2, 3, b31⟩, ⟨2, 2, b32⟩, ⟨2, 4, b33⟩, ⟨2, 2, b34⟩, ⟨2, 6, b35⟩, ⟨1, 1, b36⟩, ⟨1, 3, b37⟩, ⟨2, 6, b38⟩, ⟨2, 5, b39⟩, ⟨1, 5, b40⟩, ⟨2, 3, b41⟩, ⟨1, 7, b42⟩] cl
theorem run0 {n : Nat} {h : PH} {x0 : D} : (tb.fns (n + 1)).call 0 [x0] h = (evSs (tb.fns n) b0 [some x0] h).fin := run_of (fd := ⟨1, 1, b0⟩) rfl rfl
theorem run1 {n : Nat} {h : PH} {x0 : D} : (tb.fns (n + 1)).call 1 [x0] h = (evSs (tb.fns n) b1 [some x0] h).fin := run_of (fd := ⟨1, 1, b1⟩) rfl rfl
theorem run2 {n : Nat} {h : PH} {x0 : D} : (tb.fns (n + 1)).call 2 [x0] h = (evSs (tb.fns n) b2 [some x0] h).fin := run_of (fd := ⟨1, 1, b2⟩) rfl rfl
theorem run3 {n : Nat} {h : PH} {x0 : D} : (tb.fns (n + 1)).call 3 [x0] h = (evSs (tb.fns n) b3 [some x0] h).fin := run_of (fd := ⟨1, 1, b3⟩) rfl rfl
theorem run4 {n : Nat} {h : PH} {x0 : D} : (tb.fns (n + 1)).call 4 [x0] h = (evSs (tb.fns n) b4 [some x0] h).fin := run_of (fd := ⟨1, 1, b4⟩) rfl rfl
theorem run5 {n : Nat} {h : PH} {x0 : D} : (tb.fns (n + 1)).call 5 [x0] h = (evSs (tb.fns n) b5 [some x0] h).fin := run_of (fd := ⟨1, 1, b5⟩) rfl rfl
theorem run6 {n : Nat} {h : PH} {x0 x1 : D} : (tb.fns (n + 1)).call 6 [x0, x1] h = (evSs (tb.fns n) b6 [some x0, some x1] h).fin := run_of (fd := ⟨2, 2, b6⟩) rfl rfl
theorem run7 {n : Nat} {h : PH} {x0 : D} : (tb.fns (n + 1)).call 7 [x0] h = (evSs (tb.fns n) b7 [some x0, none, none] h).fin := run_of (fd := ⟨1, 3, b7⟩) rfl rfl
theorem run8 {n : Nat} {h : PH} {x0 : D} : (tb.fns (n + 1)).call 8 [x0] h = (evSs (tb.fns n) b8 [some x0, none] h).fin := run_of (fd := ⟨1, 2, b8⟩) rfl rfl
theorem run9 {n : Nat} {h : PH} {x0 : D} : (tb.fns (n + 1)).call 9 [x0] h = (evSs (tb.fns n) b9 [some x0] h).fin := run_of (fd := ⟨1, 1, b9⟩) rfl rfl
theorem run10 {n : Nat} {h : PH} {x0 : D} : (tb.fns (n + 1)).call 10 [x0] h = (evSs (tb.fns n) b10 [some x0] h).fin := run_of (fd := ⟨1, 1, b10⟩) rfl rfl
theorem run11 {n : Nat} {h : PH} {x0 : D} : (tb.fns (n + 1)).call 11 [x0] h = (evSs (tb.fns n) b11 [some x0, none, none] h).fin := run_of (fd := ⟨1, 3, b11⟩) rfl rfl
theorem run12 {n : Nat} {h : PH} {x0 x1 : D} : (tb.fns (n + 1)).call 12 [x0, x1] h = (evSs (tb.fns n) b12 [some x0, some x1, none] h).fin := run_of (fd := ⟨2, 3, b12⟩) rfl rfl
theorem run13 {n : Nat} {h : PH} {x0 : D} : (tb.fns (n + 1)).call 13 [x0] h = (evSs (tb.fns n) b13 [some x0, none, none, none, none] h).fin := run_of (fd := ⟨1, 5, b13⟩) rfl rfl
theorem run14 {n : Nat} {h : PH} {x0 x1 x2 x3 x4 x5 : D} : (tb.fns (n + 1)).call 14 [x0, x1, x2, x3, x4, x5] h = (evSs (tb.fns n) b14 [some x0, some x1, some x2, some x3, some x4, some x5, none, none] h).fin := run_of (fd := ⟨6, 8, b14⟩) rfl rfl
theorem run15 {n : Nat} {h : PH} {x0 x1 : D} : (tb.fns (n + 1)).call 15 [x0, x1] h = (evSs (tb.fns n) b15 [some x0, some x1, none, none] h).fin := run_of (fd := ⟨2, 4, b15⟩) rfl rfl
theorem run16 {n : Nat} {h : PH} {x0 : D} : (tb.fns (n + 1)).call 16 [x0] h = (evSs (tb.fns n) b16 [some x0] h).fin := run_of (fd := ⟨1, 1, b16⟩) rfl rfl
theorem run17 {n : Nat} {h : PH} {x0 : D} : (tb.fns (n + 1)).call 17 [x0] h = (evSs (tb.fns n) b17 [some x0] h).fin := run_of (fd := ⟨1, 1, b17⟩) rfl rfl
theorem run18 {n : Nat} {h : PH} {x0 : D} : (tb.fns (n + 1)).call 18 [x0] h = (evSs (tb.fns n) b18 [some x0] h).fin := run_of (fd := ⟨1, 1, b18⟩) rfl rfl
theorem run19 {n : Nat} {h : PH} {x0 : D} : (tb.fns (n + 1)).call 19 [x0] h = (evSs (tb.fns n) b19 [some x0] h).fin := run_of (fd := ⟨1, 1, b19⟩) rfl rfl
theorem run20 {n : Nat} {h : PH} {x0 : D} : (tb.fns (n + 1)).call 20 [x0] h = (evSs (tb.fns n) b20 [some x0] h).fin := run_of (fd := ⟨1, 1, b20⟩) rfl rfl
theorem run21 {n : Nat} {h : PH} {x0 x1 : D} : (tb.fns (n + 1)).call 21 [x0, x1] h = (evSs (tb.fns n) b21 [some x0, some x1, none] h).fin := run_of (fd := ⟨2, 3, b21⟩) rfl rfl
theorem run22 {n : Nat} {h : PH} {x0 x1 : D} : (tb.fns (n + 1)).call 22 [x0, x1] h = (evSs (tb.fns n) b22 [some x0, some x1, none, none, none] h).fin := run_of (fd := ⟨2, 5, b22⟩) rfl rfl
theorem run23 {n : Nat} {h : PH} {x0 x1 : D} : (tb.fns (n + 1)).call 23 [x0, x1] h = (evSs (tb.fns n) b23 [some x0, some x1, none, none, none] h).fin := run_of (fd := ⟨2, 5, b23⟩) rfl rfl
theorem run24 {n : Nat} {h : PH} {x0 : D} : (tb.fns (n + 1)).call 24 [x0] h = (evSs (tb.fns n) b24 [some x0, none, none] h).fin := run_of (fd := ⟨1, 3, b24⟩) rfl rfl
theorem run25 {n : Nat} {h : PH} {x0 : D} : (tb.fns (n + 1)).call 25 [x0] h = (evSs (tb.fns n) b25 [some x0, none, none, none, none] h).fin := run_of (fd := ⟨1, 5, b25⟩) rfl rfl
theorem run26 {n : Nat} {h : PH} {x0 x1 x2 : D} : (tb.fns (n + 1)).call 26 [x0, x1, x2] h = (evSs (tb.fns n) b26 [some x0, some x1, some x2] h).fin := run_of (fd := ⟨3, 3, b26⟩) rfl rfl
theorem run27 {n : Nat} {h : PH} {x0 x1 x2 : D} : (tb.fns (n + 1)).call 27 [x0, x1, x2] h = (evSs (tb.fns n) b27 [some x0, some x1, some x2, none, none, none] h).fin := run_of (fd := ⟨3, 6, b27⟩) rfl rfl
theorem run28 {n : Nat} {h : PH} {x0 x1 : D} : (tb.fns (n + 1)).call 28 [x0, x1] h = (evSs (tb.fns n) b28 [some x0, some x1, none] h).fin := run_of (fd := ⟨2, 3, b28⟩) rfl rfl
theorem run29 {n : Nat} {h : PH} {x0 x1 : D} : (tb.fns (n + 1)).call 29 [x0, x1] h = (evSs (tb.fns n) b29 [some x0, some x1] h).fin := run_of (fd := ⟨2, 2, b29⟩) rfl rfl
theorem run30 {n : Nat} {h : PH} {x0 x1 : D} : (tb.fns (n + 1)).call 30 [x0, x1] h = (evSs (tb.fns n) b30 [some x0, some x1, none, none] h).fin := run_of (fd := ⟨2, 4, b30⟩) rfl rfl
theorem run31 {n : Nat} {h : PH} {x0 x1 : D} : (tb.fns (n + 1)).call 31 [x0, x1] h = (evSs (tb.fns n) b31 [some x0, some x1, none] h).fin := run_of (fd := ⟨2, 3, b31⟩) rfl rfl
theorem run32 {n : Nat} {h : PH} {x0 x1 : D} : (tb.fns (n + 1)).call 32 [x0, x1] h = (evSs (tb.fns n) b32 [some x0, some x1] h).fin := run_of (fd := ⟨2, 2, b32⟩) rfl rfl
theorem run33 {n : Nat} {h : PH} {x0 x1 : D} : (tb.fns (n + 1)).call 33 [x0, x1] h = (evSs (tb.fns n) b33 [some x0, some x1, none, none] h).fin := run_of (fd := ⟨2, 4, b33⟩) rfl rfl
theorem run34 {n : Nat} {h : PH} {x0 x1 : D} : (tb.fns (n + 1)).call 34 [x0, x1] h = (evSs (tb.fns n) b34 [some x0, some x1] h).fin := run_of (fd := ⟨2, 2, b34⟩) rfl rfl
theorem run35 {n : Nat} {h : PH} {x0 x1 : D} : (tb.fns (n + 1)).call 35 [x0, x1] h = (evSs (tb.fns n) b35 [some x0, some x1, none, none, none, none] h).fin := run_of (fd := ⟨2, 6, b35⟩) rfl rfl
theorem run36 {n : Nat} {h : PH} {x0 : D} : (tb.fns (n + 1)).call 36 [x0] h = (evSs (tb.fns n) b36 [some x0] h).fin := run_of (fd := ⟨1, 1, b36⟩) rfl rfl
theorem run37 {n : Nat} {h : PH} {x0 : D} : (tb.fns (n + 1)).call 37 [x0] h = (evSs (tb.fns n) b37 [some x0, none, none] h).fin := run_of (fd := ⟨1, 3, b37⟩) rfl rfl
theorem run38 {n : Nat} {h : PH} {x0 x1 : D} : (tb.fns (n + 1)).call 38 [x0, x1] h = (evSs (tb.fns n) b38 [some x0, some x1, none, none, none, none] h).fin := run_of (fd := ⟨2, 6, b38⟩) rfl rfl
theorem run39 {n : Nat} {h : PH} {x0 x1 : D} : (tb.fns (n + 1)).call 39 [x0, x1] h = (evSs (tb.fns n) b39 [some x0, some x1, none, none, none] h).fin := run_of (fd := ⟨2, 5, b39⟩) rfl rfl
theorem run40 {n : Nat} {h : PH} {x0 : D} : (tb.fns (n + 1)).call 40 [x0] h = (evSs (tb.fns n) b40 [some x0, none, none, none, none] h).fin := run_of (fd := ⟨1, 5, b40⟩) rfl rfl
theorem run41 {n : Nat} {h : PH} {x0 x1 : D} : (tb.fns (n + 1)).call 41 [x0, x1] h = (evSs (tb.fns n) b41 [some x0, some x1, none] h).fin := run_of (fd := ⟨2, 3, b41⟩) rfl rfl
theorem run42 {n : Nat} {h : PH} {x0 : D} : (tb.fns (n + 1)).call 42 [x0] h = (evSs (tb.fns n) b42 [some x0, none, none, none, none, none, none] h).fin := run_of (fd := ⟨1, 7, b42⟩) rfl rfl
end Q41

set_option Elab.async false
set_option linter.all false
set_option maxRecDepth 100000
set_option maxHeartbeats 1000000
/-! Q41p: hits, misses, needs, over the interpreter. -/
namespace Q41
open Mp Mp.Wp
open PySem (Str)
local macro_rules | `(tactic| walk_at "wp") => `(tactic| try simp -implicitDefEqProofs only [W_fin, s_nil, s_cons, s_pass, s_retN, s_asgn, s_asg, s_ex, s_ret, s_ife, s_aug, s_for, s_par, s_sfd, s_thru, e_cst, e_var, e_bin, e_neg, e_cmp, e_chain, chain_bl, e_and, e_or, e_not, e_ite, e_tup, e_lst, e_dct0, e_ix, e_sl, o_no, o_yes, es_nil, es_cons, e_call, e_bfn, e_met, e_callv, e_rev, e_cdct, e_fld, e_umt, e_mk, i_seq, i_enum, i_zip, i_rng1, i_rng2, t_name, t_tup, t_sub, ts_nil, ts_cons, c_nil, c_one, e_lc, byT_bl, b_add, b_sub, c_lt, c_le, c_gt, c_ge, c_eqI, c_neI, x_tup, x_scr, item_0, item_1, item_2, item_3, item_4, f_lenT, sl_tup, List.getElem?_cons_zero, List.getElem?_cons_succ, List.set_cons_zero, List.set_cons_succ, List.nil_append, List.append_nil, List.cons_append, List.length_nil, List.length_cons])
local macro_rules | `(tactic| walk_at "wq") => `(tactic| try simp -implicitDefEqProofs only [W_fin, s_nil, s_cons, s_pass, s_retN, s_asgn, s_asg, s_ex, s_ret, s_ife, s_aug, s_for, s_par, s_sfd, s_thru, e_cst, e_var, e_bin, e_neg, e_cmp, e_chain, chain_bl, e_and, e_or, e_not, e_ite, e_tup, e_lst, e_dct0, e_ix, e_sl, o_no, o_yes, es_nil, es_cons, e_call, e_bfn, e_met, e_callv, e_rev, e_cdct, e_fld, e_umt, e_mk, i_seq, i_enum, i_zip, i_rng1, i_rng2, t_name, t_tup, t_sub, ts_nil, ts_cons, c_nil, c_one, e_lc, byT_bl, b_add, b_sub, c_lt, c_le, c_gt, c_ge, c_eqI, c_neI, x_tup, x_scr, item_0, item_1, item_2, item_3, item_4, f_lenT, sl_tup, List.getElem?_cons_zero, List.getElem?_cons_succ, List.set_cons_zero, List.set_cons_succ, List.nil_append, List.append_nil, List.cons_append, List.length_nil, List.length_cons, mx, Nat.reduceAdd, Nat.reduceLeDiff, Nat.zero_le, true_and])

/-- the names of the law, as they stand -/
abbrev KIN : List (D × D) := [(.str "x", .str "num"), (.str "y", .str "num"), (.str "z", .str "num"), (.str "n", .str "num"), (.str "f", .str "function"), (.str "a", .str "array"), (.str "b", .str "array")]
abbrev MAK : List D := [.tup [.str "f", .tup [.str "num"], .str "num"]]
def FR : List D := [.tup [.int (-6), .int 1], .tup [.int (-3), .int 1], .tup [.int (-2), .int 1], .tup [.int (-5), .int 1], .tup [.int (-5), .int 2], .tup [.int (-5), .int 3], .tup [.int (-4), .int 1], .tup [.int (-4), .int 3], .tup [.int (-3), .int 2], .tup [.int (-1), .int 1], .tup [.int (-2), .int 3], .tup [.int (-1), .int 2], .tup [.int (-1), .int 3], .tup [.int 0, .int 1], .tup [.int 1, .int 1], .tup [.int 1, .int 2], .tup [.int 1, .int 3], .tup [.int 2, .int 1], .tup [.int 2, .int 3], .tup [.int 3, .int 1], .tup [.int 3, .int 2], .tup [.int 4, .int 1], .tup [.int 4, .int 3], .tup [.int 5, .int 1], .tup [.int 5, .int 2], .tup [.int 5, .int 3], .tup [.int 6, .int 1]]
section
variable {P : D → PH → Prop} {X : Nat → PH → Prop} {h : PH} {n : Nat}
theorem fr_run {f : D} (hf : f ∈ FR) : (tb.fns (n + 3)).call 7 [f] h = .ok (.bl true) h := by
  unfold FR at hf
  simp only [List.mem_cons, List.not_mem_nil, or_false] at hf
  rcases hf with rfl | rfl | rfl | rfl | rfl | rfl | rfl | rfl | rfl | rfl | rfl | rfl | rfl | rfl | rfl | rfl | rfl | rfl | rfl | rfl | rfl | rfl | rfl | rfl | rfl | rfl | rfl <;> rfl
theorem is_frac {f : D} (hf : f ∈ FR) : ((tb.fns (n + 3)).call 7 [f] h).W P X = P (.bl true) h := by rw [fr_run hf]; rfl
theorem fr_pl {f : D} (hf : f ∈ FR) : plB 1 f = true := by
  have : FR.all (plB 1) = true := by decide +kernel
  exact List.all_eq_true.mp this f hf
theorem fr_mem : ∀ r : Fin 13, (.tup [.int ((r.val : Int) - 6), .int 1]) ∈ FR ∧ (((r.val : Int) - 6) % 2 = 0 → (.tup [.int (((r.val : Int) - 6) / 2), .int 1]) ∈ FR) ∧ (((r.val : Int) - 6) % 2 ≠ 0 → (.tup [.int ((r.val : Int) - 6), .int 2]) ∈ FR) ∧
    (((r.val : Int) - 6) % 3 = 0 → (.tup [.int (((r.val : Int) - 6) / 3), .int 1]) ∈ FR) ∧ (((r.val : Int) - 6) % 3 ≠ 0 → (.tup [.int ((r.val : Int) - 6), .int 3]) ∈ FR) := by decide +kernel
theorem fraction {i : Int} (k : ∀ f h', f ∈ FR → Pre h h' → P f h') : ((tb.fns (n + 1)).call 37 [.int i] h).W P X := by
  rw [run37]
  walk_at "wq"
  rw [b_mod (by decide)]
  walk_at "wq"
  rw [b_fdivS (by decide) (by decide)]
  walk_at "wq"
  rw [b_mod (by decide)]
  walk_at "wq"
  rw [x_ref get_new]
  have r0 := Int.emod_nonneg i (show (13 : Int) ≠ 0 by decide)
  have r1 := Int.emod_lt_of_pos i (show (0 : Int) < 13 by decide)
  have q0 := Int.emod_nonneg (i / 13) (show (4 : Int) ≠ 0 by decide)
  have q1 := Int.emod_lt_of_pos (i / 13) (show (0 : Int) < 4 by decide)
  generalize i / 13 % 4 = q at q0 q1 ⊢
  obtain ⟨r, hr⟩ : ∃ r : Fin 13, i % 13 = (r.val : Int) := ⟨⟨(i % 13).toNat, by omega⟩, by show i % 13 = ((i % 13).toNat : Int); omega⟩
  rw [hr]
  obtain ⟨m1, m2, m3, m4, m5⟩ := fr_mem r
  have p0 : Pre h (h ++ [.lst [.int 1, .int 1, .int 2, .int 3]]) := Pre.refl.app _
  have hq : q = 0 ∨ q = 1 ∨ q = 2 ∨ q = 3 := by omega
  generalize ((r.val : Int) - 6) = t at m1 m2 m3 m4 m5 ⊢
  rcases hq with rfl | rfl | rfl | rfl
  · walk_at "wq"
    simp
    exact k _ _ m1 p0
  · walk_at "wq"
    simp
    exact k _ _ m1 p0
  · walk_at "wq"
    rw [b_mod (by decide), b_fdivS (by decide) (by decide)]
    walk_at "wq"
    by_cases c : t % 2 = 0
    · simp [c]
      exact k _ _ (m2 c) p0
    · simp [c]
      exact k _ _ (m3 c) p0
  · walk_at "wq"
    rw [b_mod (by decide), b_fdivS (by decide) (by decide)]
    walk_at "wq"
    by_cases c : t % 3 = 0
    · simp [c]
      exact k _ _ (m4 c) p0
    · simp [c]
      exact k _ _ (m5 c) p0
/-! names -/
abbrev NM : List Str := ["x", "y", "z", "n", "a", "b", "f"]
theorem nm_in : ∀ x ∈ NM, memD [] (.str x) (.str "abcdefghijklmnopqrstuvwxyz") = some true := by decide +kernel
theorem nm_signs : ∀ x ∈ NM, signs x = [.str x] := by decide +kernel
theorem nm_len : ∀ x ∈ NM, x.length = 1 := by decide +kernel
theorem is_name {x : Str} (hx : x ∈ NM) (k : ∀ h', Pre h h' → P (.bl true) h') : ((tb.fns (n + 1)).call 8 [.str x] h).W P X := by
  rw [run8]
  have e2 : (bfn .len [.str x] h) = .ok (.int 1) h := by
    show (if x.length ≤ mx then Res.ok (D.int x.length) h else .stk) = _
    rw [nm_len x hx]; rfl
  simp only [W_fin, s_cons, s_ife, e_or, e_not, e_bfn, es_cons, es_nil, e_var, List.getElem?_cons_zero, f_isiS, byT_bl, e_chain, e_cst, e2, W_ok, s_ret, s_nil, c_le, chain_bl, e_lc, i_seq, seqW_str, nm_signs x hx]
  simp only [decide_true, if_true, W_ok, e2, show decide ((1 : Int) ≤ 1) = true from by decide, show decide ((1 : Int) ≤ 8) = true from by decide, byT_bl, Bool.false_eq_true, if_false, c_le]
  refine lcS_W (fun _ => some (.bl true)) (fun h' => h' = h) [.str x] [] h ?_ rfl (by simp [mx]) ?_
  · rintro y hy h' rfl
    rw [List.mem_singleton.mp hy, lturn_W, t_name]
    simp only [wipeE, c_nil, if_true, e_cmp, e_var, e_cst]
    have : memD h' (.str x) (.str "abcdefghijklmnopqrstuvwxyz") = some true := nm_in x hx
    simp only [List.foldl, List.set_cons_succ, List.set_cons_zero, List.getElem?_cons_succ, List.getElem?_cons_zero, c_in this]
    exact ⟨trivial, rfl, trivial⟩
  · rintro h' rfl
    rw [f_all (is := [true]) (lst_ref (by rw [get_new]; rfl))]
    exact k _ (Pre.refl.app _)
structure NamesAt (h : PH) (l : Nat) : Prop where
  ex : ∃ fs a b, h[l]? = some (.ins 0 fs) ∧ fs.lookup ("kinds" : Str) = some (.ref a) ∧ fs.lookup ("makers" : Str) = some (.ref b) ∧ h[a]? = some (.dct KIN) ∧ h[b]? = some (.lst MAK) ∧ fs.lookup ("kind" : Str) = none ∧ fs.lookup ("function" : Str) = none
theorem NamesAt.mono {h h' : PH} {l : Nat} (p : Pre h h') : NamesAt h l → NamesAt h' l := fun ⟨fs, a, b, e1, e2, e3, e4, e5, e6⟩ => ⟨fs, a, b, p.get e1, e2, e3, p.get e4, p.get e5, e6⟩
def kn : Bool → Str
  | true => "num"
  | false => "array"
def nms : Bool → List Str
  | true => ["x", "y", "z", "n"]
  | false => ["a", "b"]
theorem kind_m {b : Bool} {l : Nat} {x : Str} (na : NamesAt h l) (hx : x ∈ nms b) : ((tb.fns (n + 2)).call 21 [.ref l, .str x] h).W P X = P (.str (kn b)) h := by
  obtain ⟨fs, a, c, e1, e2, e3, e4, e5, e6, e7⟩ := na
  rw [run21]
  simp only [W_fin, s_cons, s_asgn, e_met, e_fld, e_var, List.getElem?_cons_zero]
  rw [fld_W e1 (by rfl) e2, m_get1 e4]
  walk_at "wp"
  have e8 : metD .get1 a [.str x] h = .ok (.str (kn b)) h := by
    have : dget h (.ref a) (.str x) = some (some (.str (kn b))) := by
      have e9 : dctOf h (.ref a) = some KIN := dct_ref e4
      unfold dget
      rw [e9]
      cases b
      · simp only [nms, List.mem_cons, List.not_mem_nil, or_false] at hx
        rcases hx with rfl | rfl <;> rfl
      · simp only [nms, List.mem_cons, List.not_mem_nil, or_false] at hx
        rcases hx with rfl | rfl | rfl | rfl <;> rfl
    show (match dget h (.ref a) (.str x) with
    | some o => Res.ok (o.getD .non) h
    | none => .stk) = _
    rw [this]; rfl
  rw [e8, W_ok]
  walk_at "wp"
  rw [c_eqP (by cases b <;> (show plB 64 _ = true; decide +kernel)) (by show plB 64 _ = true; decide +kernel), byT_bl]
  have : decide (D.str (kn b) = D.str "function") = false := by cases b <;> decide +kernel
  rw [this]; simp
theorem func_m {l : Nat} (na : NamesAt h l) (k : P (.tup [.tup [.str "num"], .str "num"]) h) : ((tb.fns (n + 2)).call 23 [.ref l, .str "f"] h).W P X := by
  obtain ⟨fs, a, c, e1, e2, e3, e4, e5, e6, e7⟩ := na
  rw [run23]
  simp only [W_fin, s_cons, s_for, i_seq, e_fld, e_var, List.getElem?_cons_zero]
  rw [fld_W e1 (by rfl) e3, seqW_of (seq_ref e5)]
  refine forI_W (fun j ρ h' => j = 0 ∧ ρ = [some (.ref l), some (.str "f"), none, none, none] ∧ h' = h) MAK ?_ ⟨rfl, rfl, rfl⟩ ?_
  · rintro j x ρ h' hx ⟨rfl, rfl, rfl⟩
    have hx : x = .tup [.str "f", .tup [.str "num"], .str "num"] := by simpa [MAK] using hx.symm
    subst hx
    rw [turn_W]
    simp only [t_tup, show seqOf h' (.tup [.str "f", .tup [.str "num"], .str "num"]) = some [.str "f", .tup [.str "num"], .str "num"] from rfl]
    walk_at "wq"
    rw [c_eqP (by show plB 64 _ = true; decide +kernel) (by show plB 64 _ = true; decide +kernel), byT_bl]
    walk_at "wq"
    simp
    exact k
  · rintro ρ h' ⟨q, _⟩
    cases q
end
end Q41

set_option Elab.async false
set_option linter.all false
set_option maxRecDepth 100000
set_option maxHeartbeats 1000000
/-! Q41p2: the terms the law makes. -/
namespace Q41
open Mp Mp.Wp
open PySem (Str)
local macro_rules | `(tactic| walk_at "wp") => `(tactic| try simp -implicitDefEqProofs only [W_fin, s_nil, s_cons, s_pass, s_retN, s_asgn, s_asg, s_ex, s_ret, s_ife, s_aug, s_for, s_par, s_sfd, s_thru, e_cst, e_var, e_bin, e_neg, e_cmp, e_chain, chain_bl, e_and, e_or, e_not, e_ite, e_tup, e_lst, e_dct0, e_ix, e_sl, o_no, o_yes, es_nil, es_cons, e_call, e_bfn, e_met, e_callv, e_rev, e_cdct, e_fld, e_umt, e_mk, i_seq, i_enum, i_zip, i_rng1, i_rng2, t_name, t_tup, t_sub, ts_nil, ts_cons, c_nil, c_one, e_lc, byT_bl, b_add, b_sub, c_lt, c_le, c_gt, c_ge, c_eqI, c_neI, x_tup, x_scr, item_0, item_1, item_2, item_3, item_4, f_lenT, sl_tup, List.getElem?_cons_zero, List.getElem?_cons_succ, List.set_cons_zero, List.set_cons_succ, List.nil_append, List.append_nil, List.cons_append, List.length_nil, List.length_cons])
local macro_rules | `(tactic| walk_at "wq") => `(tactic| try simp -implicitDefEqProofs only [W_fin, s_nil, s_cons, s_pass, s_retN, s_asgn, s_asg, s_ex, s_ret, s_ife, s_aug, s_for, s_par, s_sfd, s_thru, e_cst, e_var, e_bin, e_neg, e_cmp, e_chain, chain_bl, e_and, e_or, e_not, e_ite, e_tup, e_lst, e_dct0, e_ix, e_sl, o_no, o_yes, es_nil, es_cons, e_call, e_bfn, e_met, e_callv, e_rev, e_cdct, e_fld, e_umt, e_mk, i_seq, i_enum, i_zip, i_rng1, i_rng2, t_name, t_tup, t_sub, ts_nil, ts_cons, c_nil, c_one, e_lc, byT_bl, b_add, b_sub, c_lt, c_le, c_gt, c_ge, c_eqI, c_neI, x_tup, x_scr, item_0, item_1, item_2, item_3, item_4, f_lenT, sl_tup, List.getElem?_cons_zero, List.getElem?_cons_succ, List.set_cons_zero, List.set_cons_succ, List.nil_append, List.append_nil, List.cons_append, List.length_nil, List.length_cons, mx, Nat.reduceAdd, Nat.reduceLeDiff, Nat.zero_le, true_and])

inductive Tm : Bool → Nat → D → Prop
  | unk {b k x} : x ∈ nms b → Tm b k (.tup [.str "unknown", .str x])
  | num {k f} : f ∈ FR → Tm true k (.tup [.str "number", f])
  | weigh {k f t} : f ∈ FR → Tm true k t → Tm true (k + 1) (.tup [.str "weigh", f, t])
  | call {k t} : Tm true k t → Tm true (k + 1) (.tup [.str "call", .str "f", .tup [t]])
  | read {k a p} : Tm false k a → Tm true k p → Tm true (k + 1) (.tup [.str "read", a, p])
  | plus {k s t} : Tm true k s → Tm true k t → Tm true (k + 1) (.tup [.str "plus", .tup [s, t]])
  | put {k a p v} : Tm false k a → Tm true k p → Tm true k v → Tm false (k + 1) (.tup [.str "put", a, p, v])
theorem Tm.mono {b : Bool} {k : Nat} {t : D} (h : Tm b k t) : ∀ {m : Nat}, k ≤ m → Tm b m t := by
  induction h with
  | unk hx => intro m _; exact .unk hx
  | num hf => intro m _; exact .num hf
  | weigh hf _ ih => intro m l; obtain ⟨m, rfl⟩ : ∃ j, m = j + 1 := ⟨m - 1, by omega⟩; exact .weigh hf (ih (by omega))
  | call _ ih => intro m l; obtain ⟨m, rfl⟩ : ∃ j, m = j + 1 := ⟨m - 1, by omega⟩; exact .call (ih (by omega))
  | read _ _ i1 i2 => intro m l; obtain ⟨m, rfl⟩ : ∃ j, m = j + 1 := ⟨m - 1, by omega⟩; exact .read (i1 (by omega)) (i2 (by omega))
  | plus _ _ i1 i2 => intro m l; obtain ⟨m, rfl⟩ : ∃ j, m = j + 1 := ⟨m - 1, by omega⟩; exact .plus (i1 (by omega)) (i2 (by omega))
  | put _ _ _ i1 i2 i3 => intro m l; obtain ⟨m, rfl⟩ : ∃ j, m = j + 1 := ⟨m - 1, by omega⟩; exact .put (i1 (by omega)) (i2 (by omega)) (i3 (by omega))
theorem nms_pl : ∀ b, ∀ x ∈ nms b, PySem.PyData.strOk x = true := by decide +kernel
theorem sok (x : Str) (h : PySem.PyData.strOk x = true) (n : Nat) : plB n (.str x) = true := by rw [pl_str]; exact h
theorem Tm.pl {b : Bool} {k : Nat} {t : D} (h : Tm b k t) : plB (2 * k + 2) t = true := by
  induction h with
  | unk hx =>
    rw [pl_tup]; refine ⟨fun d hd => ?_, by simp⟩; simp only [List.mem_cons, List.not_mem_nil, or_false] at hd; rcases hd with rfl | rfl
    · exact sok _ (by decide +kernel) _
    · exact sok _ (nms_pl _ _ hx) _
  | num hf =>
    rw [pl_tup]; refine ⟨fun d hd => ?_, by simp⟩; simp only [List.mem_cons, List.not_mem_nil, or_false] at hd; rcases hd with rfl | rfl
    · exact sok _ (by decide +kernel) _
    · exact plB_mono (fr_pl hf) (by omega)
  | weigh hf _ ih =>
    rw [Nat.mul_add, pl_tup]; refine ⟨fun d hd => ?_, by simp⟩; simp only [List.mem_cons, List.not_mem_nil, or_false] at hd; rcases hd with rfl | rfl | rfl
    · exact sok _ (by decide +kernel) _
    · exact plB_mono (fr_pl hf) (by omega)
    · exact plB_mono ih (by omega)
  | call _ ih =>
    rw [Nat.mul_add, pl_tup]; refine ⟨fun d hd => ?_, by simp⟩; simp only [List.mem_cons, List.not_mem_nil, or_false] at hd; rcases hd with rfl | rfl | rfl
    · exact sok _ (by decide +kernel) _
    · exact sok _ (by decide +kernel) _
    · rw [pl_tup]; refine ⟨fun d hd => ?_, by simp⟩; rw [List.mem_singleton.mp hd]; exact ih
  | read _ _ i1 i2 =>
    rw [Nat.mul_add, pl_tup]; refine ⟨fun d hd => ?_, by simp⟩; simp only [List.mem_cons, List.not_mem_nil, or_false] at hd; rcases hd with rfl | rfl | rfl
    · exact sok _ (by decide +kernel) _
    · exact plB_mono i1 (by omega)
    · exact plB_mono i2 (by omega)
  | plus _ _ i1 i2 =>
    rw [Nat.mul_add, pl_tup]; refine ⟨fun d hd => ?_, by simp⟩; simp only [List.mem_cons, List.not_mem_nil, or_false] at hd; rcases hd with rfl | rfl
    · exact sok _ (by decide +kernel) _
    · rw [pl_tup]; refine ⟨fun d hd => ?_, by simp⟩; simp only [List.mem_cons, List.not_mem_nil, or_false] at hd; rcases hd with rfl | rfl
      · exact i1
      · exact i2
  | put _ _ _ i1 i2 i3 =>
    rw [Nat.mul_add, pl_tup]; refine ⟨fun d hd => ?_, by simp⟩; simp only [List.mem_cons, List.not_mem_nil, or_false] at hd; rcases hd with rfl | rfl | rfl | rfl
    · exact sok _ (by decide +kernel) _
    · exact plB_mono i1 (by omega)
    · exact plB_mono i2 (by omega)
    · exact plB_mono i3 (by omega)
/-- the list that is drawn from -/
structure J (h0 : PH) (lx : Nat) (h : PH) : Prop where
  pre : Pre h0 h
  fr : h0.length ≤ lx
  is : ∃ is : List Int, h[lx]? = some (.lst (is.map D.int))
theorem J.go {h0 h h' : PH} {lx : Nat} (j : J h0 lx h) (p : Pre h h') : J h0 lx h' := ⟨j.pre.trans p, j.fr, j.is.imp fun _ e => p.get e⟩
section
variable {P : D → PH → Prop} {X : Nat → PH → Prop} {h h0 : PH} {lx n : Nat}
theorem pop_W {l : Nat} {xs : List D} {d : D} (e : h[l]? = some (.lst (xs ++ [d]))) : (metL .pop l [] h).W P X = P d (h.set l (.lst xs)) := by
  show (match h[l]? with
    | some (.lst ds) => (match ds[ds.length - 1]? with
      | some d => Res.ok d (h.set l (.lst ds.dropLast))
      | none => .stk)
    | _ => .stk).W P X = _
  rw [e]
  simp; rfl
theorem draw (j : J h0 lx h) (k : ∀ i h', J h0 lx h' → P (.int i) h') : ((tb.fns (n + 1)).call 36 [.ref lx] h).W P X := by
  obtain ⟨is, e⟩ := j.is
  rw [run36]
  walk_at "wq"
  have e1 : (h ++ [O.lst []])[lx]? = some (.lst (is.map D.int)) := (Pre.refl.app _).get e
  have ai : ∀ y ∈ is.map D.int, plB 1 y = true := fun y hy => by obtain ⟨z, _, rfl⟩ := List.mem_map.mp hy; exact pl_int
  rw [c_eq (eqD_lst e1 get_new ai (fun y hy => by simp at hy) (n := 1))]
  walk_at "wq"
  have jj := j.go (Pre.refl.app [O.lst []])
  by_cases c : is = []
  · subst c
    simp
    exact k _ _ jj
  · have c' : ¬ (is.map D.int = []) := by simpa using c
    simp only [c', decide_false, Bool.false_eq_true, if_false]
    rw [m_pop e1]
    have hne : is = is.dropLast ++ [is.getLast c] := (List.dropLast_concat_getLast c).symm
    have e2 : (h ++ [O.lst []])[lx]? = some (.lst (is.dropLast.map D.int ++ [.int (is.getLast c)])) := by
      rw [e1]
      conv => lhs; rw [hne]
      rw [List.map_append]; rfl
    walk_at "wq"
    rw [pop_W e2]
    exact k _ _ ⟨jj.pre.set j.fr _, j.fr, _, get_set e1⟩
theorem item_in {xs : List D} {i : Int} (h0 : 0 ≤ i) (h1 : i < xs.length) {Q : D → Prop} (k : ∀ d ∈ xs, Q d) : match item xs i with | some d => Q d | none => False := by
  obtain ⟨d, e, hd, _⟩ := item_int h0 h1
  rw [e]; exact k d hd
abbrev BT (d : Nat) : Prop := ∀ {P : D → PH → Prop} {X : Nat → PH → Prop} {h h0 : PH} {lx : Nat} (n : Nat) (i : Int), i ≤ d → J h0 lx h → (∀ t h', J h0 lx h' → Tm true i.toNat t → P t h') → ((tb.fns (n + d + 4)).call 38 [.ref lx, .int i] h).W P X
abbrev BA (d : Nat) : Prop := ∀ {P : D → PH → Prop} {X : Nat → PH → Prop} {h h0 : PH} {lx : Nat} (n : Nat) (i : Int), i ≤ d → J h0 lx h → (∀ t h', J h0 lx h' → Tm false i.toNat t → P t h') → ((tb.fns (n + d + 4)).call 39 [.ref lx, .int i] h).W P X
theorem ba0 {h h0 : PH} {lx n : Nat} {i : Int} (j : J h0 lx h) (rec : ¬ i < 1 → (∀ {P : D → PH → Prop} {X : Nat → PH → Prop} {h : PH}, J h0 lx h → (∀ t h', J h0 lx h' → Tm false (i - 1).toNat t → P t h') → ((tb.fns (n + 3)).call 39 [.ref lx, .int (i - 1)] h).W P X) ∧
    (∀ {P : D → PH → Prop} {X : Nat → PH → Prop} {h : PH}, J h0 lx h → (∀ t h', J h0 lx h' → Tm true (i - 1).toNat t → P t h') → ((tb.fns (n + 3)).call 38 [.ref lx, .int (i - 1)] h).W P X) ∧
    (∀ {P : D → PH → Prop} {X : Nat → PH → Prop} {h : PH}, J h0 lx h → (∀ t h', J h0 lx h' → Tm true (i - 2).toNat t → P t h') → ((tb.fns (n + 3)).call 38 [.ref lx, .int (i - 2)] h).W P X))
    (k : ∀ t h', J h0 lx h' → Tm false i.toNat t → P t h') : ((tb.fns (n + 4)).call 39 [.ref lx, .int i] h).W P X := by
  rw [run39]
  walk_at "wq"
  refine draw j fun z h1 j1 => ?_
  walk_at "wq"
  rw [b_mod (by decide)]
  walk_at "wq"
  have u : ∀ h1, J h0 lx h1 → (ixop (.ref h1.length) (.int (z / 3 % 2)) (h1 ++ [.lst [.str "a", .str "b"]])).W (fun x h' => P (.tup [.str "unknown", x]) h') (fun c h => X c h) := by
    intro h1 j1
    rw [x_ref get_new]
    refine item_in (Q := fun x => P (.tup [.str "unknown", x]) _) (Int.emod_nonneg _ (by decide)) (Int.emod_lt_of_pos _ (by decide)) fun d hd => ?_
    refine k _ _ (j1.go (Pre.refl.app _)) ?_
    simp only [List.mem_cons, List.not_mem_nil, or_false] at hd
    rcases hd with rfl | rfl
    · exact .unk (by decide)
    · exact .unk (by decide)
  by_cases c0 : i < 1
  · simp only [c0, decide_true, if_true]
    rw [b_fdivS (by decide) (by decide)]
    walk_at "wq"
    rw [b_mod (by decide)]
    exact u _ j1
  · simp only [c0, decide_false, Bool.false_eq_true, if_false]
    by_cases c1 : z % 3 = 0
    · simp only [c1, decide_true, if_true]
      rw [b_fdivS (by decide) (by decide)]
      walk_at "wq"
      rw [b_mod (by decide)]
      exact u _ j1
    · simp only [c1, decide_false, Bool.false_eq_true, if_false]
      obtain ⟨r1, r2, r3⟩ := rec c0
      refine r1 j1 fun t1 h2 j2 t1' => ?_
      walk_at "wq"
      refine r2 j2 fun t2 h3 j3 t2' => ?_
      walk_at "wq"
      refine r3 j3 fun t3 h4 j4 t3' => ?_
      refine k _ _ j4 ?_
      have e : i.toNat = (i - 1).toNat + 1 := by omega
      rw [e]
      exact .put t1' t2' (t3'.mono (by omega))
theorem bt0 {h h0 : PH} {lx n : Nat} {i : Int} (j : J h0 lx h) (rec : ¬ i < 1 → (∀ {P : D → PH → Prop} {X : Nat → PH → Prop} {h : PH}, J h0 lx h → (∀ t h', J h0 lx h' → Tm false (i - 1).toNat t → P t h') → ((tb.fns (n + 3)).call 39 [.ref lx, .int (i - 1)] h).W P X) ∧
    (∀ {P : D → PH → Prop} {X : Nat → PH → Prop} {h : PH}, J h0 lx h → (∀ t h', J h0 lx h' → Tm true (i - 1).toNat t → P t h') → ((tb.fns (n + 3)).call 38 [.ref lx, .int (i - 1)] h).W P X))
    (k : ∀ t h', J h0 lx h' → Tm true i.toNat t → P t h') : ((tb.fns (n + 4)).call 38 [.ref lx, .int i] h).W P X := by
  rw [run38]
  walk_at "wq"
  refine draw j fun z h1 j1 => ?_
  walk_at "wq"
  rw [b_mod (by decide)]
  walk_at "wq"
  have u : ∀ h1, J h0 lx h1 → (ixop (.ref h1.length) (.int (z / 9 % 4)) (h1 ++ [.lst [.str "x", .str "y", .str "z", .str "n"]])).W (fun x h' => P (.tup [.str "unknown", x]) h') (fun c h => X c h) := by
    intro h1 j1
    rw [x_ref get_new]
    refine item_in (Q := fun x => P (.tup [.str "unknown", x]) _) (Int.emod_nonneg _ (by decide)) (Int.emod_lt_of_pos _ (by decide)) fun d hd => ?_
    refine k _ _ (j1.go (Pre.refl.app _)) ?_
    simp only [List.mem_cons, List.not_mem_nil, or_false] at hd
    rcases hd with rfl | rfl | rfl | rfl
    · exact .unk (by decide)
    · exact .unk (by decide)
    · exact .unk (by decide)
    · exact .unk (by decide)
  by_cases c0 : i < 1
  · simp only [c0, decide_true, if_true]
    rw [b_fdivS (by decide) (by decide)]
    walk_at "wq"
    rw [b_mod (by decide)]
    exact u _ j1
  · simp only [c0, decide_false, Bool.false_eq_true, if_false]
    have e : i.toNat = (i - 1).toNat + 1 := by omega
    obtain ⟨r1, r2⟩ := rec c0
    by_cases c1 : z % 9 < 3
    · simp only [c1, decide_true, if_true]
      rw [b_fdivS (by decide) (by decide)]
      walk_at "wq"
      rw [b_mod (by decide)]
      exact u _ j1
    · simp only [c1, decide_false, Bool.false_eq_true, if_false]
      by_cases c2 : z % 9 = 3
      · simp only [c2, decide_true, if_true]
        rw [b_fdivS (by decide) (by decide)]
        walk_at "wq"
        refine fraction fun f h2 hf p2 => ?_
        exact k _ _ (j1.go p2) (.num hf)
      · simp only [c2, decide_false, Bool.false_eq_true, if_false]
        by_cases c3 : z % 9 = 4
        · simp only [c3, decide_true, if_true]
          rw [b_fdivS (by decide) (by decide)]
          walk_at "wq"
          refine fraction fun f h2 hf p2 => ?_
          walk_at "wq"
          refine r2 (j1.go p2) fun t h3 j3 ht => ?_
          refine k _ _ j3 ?_
          rw [e]; exact .weigh hf ht
        · simp only [c3, decide_false, Bool.false_eq_true, if_false]
          by_cases c4 : z % 9 = 5
          · simp only [c4, decide_true, if_true]
            refine r2 j1 fun t h3 j3 ht => ?_
            refine k _ _ j3 ?_
            rw [e]; exact .call ht
          · simp only [c4, decide_false, Bool.false_eq_true, if_false]
            by_cases c5 : z % 9 < 8
            · simp only [c5, decide_true, if_true]
              refine r1 j1 fun t h3 j3 ht => ?_
              walk_at "wq"
              refine r2 j3 fun t4 h4 j4 ht4 => ?_
              refine k _ _ j4 ?_
              rw [e]; exact .read ht ht4
            · simp only [c5, decide_false, Bool.false_eq_true, if_false]
              refine r2 j1 fun t h3 j3 ht => ?_
              walk_at "wq"
              refine r2 j3 fun t4 h4 j4 ht4 => ?_
              refine k _ _ j4 ?_
              rw [e]; exact .plus ht ht4
theorem build : ∀ d : Nat, BT d ∧ BA d
  | 0 => ⟨fun n i hi j k => bt0 j (fun c => absurd hi (by omega)) k, fun n i hi j k => ba0 j (fun c => absurd hi (by omega)) k⟩
  | d + 1 => by
    obtain ⟨t, a⟩ := build d
    refine ⟨fun n i hi j k => ?_, fun n i hi j k => ?_⟩
    · exact bt0 (n := n + d + 1) j (fun c => ⟨fun j k => a n (i - 1) (by omega) j k, fun j k => t n (i - 1) (by omega) j k⟩) k
    · exact ba0 (n := n + d + 1) j (fun c => ⟨fun j k => a n (i - 1) (by omega) j k, fun j k => t n (i - 1) (by omega) j k, fun j k => t n (i - 2) (by omega) j k⟩) k
end
end Q41

set_option Elab.async false
set_option linter.all false
set_option maxRecDepth 100000
set_option maxHeartbeats 1000000
/-! Q41p3: the list of ints, the reads the law makes. -/
namespace Q41
open Mp Mp.Wp
open PySem (Str)
local macro_rules | `(tactic| walk_at "wp") => `(tactic| try simp -implicitDefEqProofs only [W_fin, s_nil, s_cons, s_pass, s_retN, s_asgn, s_asg, s_ex, s_ret, s_ife, s_aug, s_for, s_par, s_sfd, s_thru, e_cst, e_var, e_bin, e_neg, e_cmp, e_chain, chain_bl, e_and, e_or, e_not, e_ite, e_tup, e_lst, e_dct0, e_ix, e_sl, o_no, o_yes, es_nil, es_cons, e_call, e_bfn, e_met, e_callv, e_rev, e_cdct, e_fld, e_umt, e_mk, i_seq, i_enum, i_zip, i_rng1, i_rng2, t_name, t_tup, t_sub, ts_nil, ts_cons, c_nil, c_one, e_lc, byT_bl, b_add, b_sub, c_lt, c_le, c_gt, c_ge, c_eqI, c_neI, x_tup, x_scr, item_0, item_1, item_2, item_3, item_4, f_lenT, sl_tup, List.getElem?_cons_zero, List.getElem?_cons_succ, List.set_cons_zero, List.set_cons_succ, List.nil_append, List.append_nil, List.cons_append, List.length_nil, List.length_cons])
local macro_rules | `(tactic| walk_at "wq") => `(tactic| try simp -implicitDefEqProofs only [W_fin, s_nil, s_cons, s_pass, s_retN, s_asgn, s_asg, s_ex, s_ret, s_ife, s_aug, s_for, s_par, s_sfd, s_thru, e_cst, e_var, e_bin, e_neg, e_cmp, e_chain, chain_bl, e_and, e_or, e_not, e_ite, e_tup, e_lst, e_dct0, e_ix, e_sl, o_no, o_yes, es_nil, es_cons, e_call, e_bfn, e_met, e_callv, e_rev, e_cdct, e_fld, e_umt, e_mk, i_seq, i_enum, i_zip, i_rng1, i_rng2, t_name, t_tup, t_sub, ts_nil, ts_cons, c_nil, c_one, e_lc, byT_bl, b_add, b_sub, c_lt, c_le, c_gt, c_ge, c_eqI, c_neI, x_tup, x_scr, item_0, item_1, item_2, item_3, item_4, f_lenT, sl_tup, List.getElem?_cons_zero, List.getElem?_cons_succ, List.set_cons_zero, List.set_cons_succ, List.nil_append, List.append_nil, List.cons_append, List.length_nil, List.length_cons, mx, Nat.reduceAdd, Nat.reduceLeDiff, Nat.zero_le, true_and])

section
variable {P : D → PH → Prop} {X : Nat → PH → Prop} {h h0 : PH} {lx n : Nat}
theorem stream {c : Int} (k : ∀ l h', J h l h' → P (.ref l) h') : ((tb.fns (n + 1)).call 35 [.int c, .int 150] h).W P X := by
  rw [run35]
  walk_at "wq"
  rw [b_fdivS (by decide) (by decide)]
  refine s_whl_W (fun ρ h' => ∃ (i : Int) (is : List Int), ρ = [some (.int c), some (.int 150), some (.ref h.length), some (.int i), none, none] ∧ is.length ≤ 150 ∧ Pre h h' ∧ h'[h.length]? = some (.lst (is.map D.int)))
    (fun ρ h' => match h'[h.length]? with | some (.lst ds) => 150 - ds.length | _ => 0)
    (fun ρ h' => ∃ (i : Int) (is : List Int), ρ = [some (.int c), some (.int 150), some (.ref h.length), some (.int i), none, none] ∧ is.length ≤ 150 ∧ Pre h h' ∧ h'[h.length]? = some (.lst (is.map D.int))) ?_ ⟨c / 1000, [], rfl, Nat.zero_le _, Pre.refl.app _, by simp⟩ ?_ ?_
  · intro ρ h' ⟨i, is, e, l1, p2, p3⟩
    subst e
    walk_at "wp"
    simp only [f_lenL p3, pw109]
    walk_at "wp"
    simp only [List.length_map]
    have fin : ∃ (i' : Int) (is' : List Int), [some (D.int c), some (.int 150), some (.ref h.length), some (.int i), none, none] = [some (D.int c), some (.int 150), some (.ref h.length), some (.int i'), none, none] ∧ is'.length ≤ 150 ∧ Pre h h' ∧ h'[h.length]? = some (.lst (is'.map D.int)) := ⟨i, is, rfl, l1, p2, p3⟩
    by_cases c2 : (is.length : Int) < 150
    · by_cases c1 : 0 < i
      · simp only [c1, c2, decide_true, if_true]
        simp only [m_app p3]
        walk_at "wp"
        simp only [b_mod (show (0 : Int) < 1000000000 by decide), pw109]
        rw [m_append p3]
        rw [b_fdivS (by decide) (by decide)]
        refine ⟨by simp [mx]; omega, ⟨i / 1000000000, is ++ [i % 1000000000], rfl, by simp; omega, p2.set (Nat.le_refl _) _, by rw [get_set p3]; simp⟩, ?_⟩
        rw [get_set p3, p3]
        simp; omega
      · simp only [c1, c2, decide_true, decide_false, if_true, Bool.false_eq_true, if_false]
        exact fin
    · simp only [c2, decide_true, decide_false, if_true, Bool.false_eq_true, if_false]
      exact fin
  · simp [wlim]
  · intro ρ h' ⟨i, is, e, l1, p2, p3⟩
    subst e
    walk_at "wp"
    rw [b_mulR (by decide) (by decide), b_mod (by decide)]
    refine s_whl_W (fun ρ h' => ∃ (z : Int) (y : Option D) (is : List Int), ρ = [some (.int c), some (.int 150), some (.ref h.length), some (.int i), some (.int z), y] ∧ 0 ≤ z ∧ z < 2147483647 ∧ is.length ≤ 150 ∧ Pre h h' ∧ h'[h.length]? = some (.lst (is.map D.int)))
      (fun ρ h' => match h'[h.length]? with | some (.lst ds) => 150 - ds.length | _ => 0)
      (fun ρ h' => ∃ (z : Int) (y : Option D) (is : List Int), ρ = [some (.int c), some (.int 150), some (.ref h.length), some (.int i), some (.int z), y] ∧ Pre h h' ∧ h'[h.length]? = some (.lst (is.map D.int))) ?_ ⟨_, none, is, rfl, Int.emod_nonneg _ (by decide), Int.emod_lt_of_pos _ (by decide), l1, p2, p3⟩ ?_ ?_
    · intro ρ h2 ⟨z, y, is, e, z0, z1, l1, p2, p3⟩
      subst e
      walk_at "wp"
      simp only [f_lenL p3]
      walk_at "wp"
      simp only [List.length_map]
      by_cases c2 : (is.length : Int) < 150
      · simp only [c2, decide_true, if_true]
        rw [f_lenL p3, b_mulL (by decide) (by decide), List.length_map]
        walk_at "wp"
        rw [b_fdivS (by decide) (by decide)]
        walk_at "wp"
        rw [b_mulL (by omega) (by omega), b_mod (by decide)]
        have r0 := Int.emod_nonneg ((z + 7919 * (is.length : Int) + 1) * (z / 1009 + 69621)) (show (2147483647 : Int) ≠ 0 by decide)
        have r1 := Int.emod_lt_of_pos ((z + 7919 * (is.length : Int) + 1) * (z / 1009 + 69621)) (show (0 : Int) < 2147483647 by decide)
        generalize (z + 7919 * (is.length : Int) + 1) * (z / 1009 + 69621) % 2147483647 = r at r0 r1
        simp only [m_app p3]
        walk_at "wp"
        rw [b_fdivS (by decide) (by decide)]
        walk_at "wp"
        rw [b_mulL (by omega) (by omega), b_mod (by decide)]
        rw [m_append p3]
        refine ⟨by simp [mx]; omega, ⟨r, _, is ++ [r * (r / 2003 + 40009) % 2147483629], rfl, r0, r1, by simp; omega, p2.set (Nat.le_refl _) _, by rw [get_set p3]; simp⟩, ?_⟩
        rw [get_set p3, p3]
        simp; omega
      · simp only [c2, decide_true, decide_false, if_true, Bool.false_eq_true, if_false]
        exact ⟨z, y, is, rfl, p2, p3⟩
    · rw [p3]; simp [wlim]; omega
    · intro ρ h2 ⟨z, y, is, e, p2, p3⟩
      subst e
      walk_at "wp"
      rw [lst_ref p3]
      exact k _ _ ⟨p2.app _, p2.len, is.reverse, by rw [get_new, List.map_reverse]⟩
inductive Puts : Nat → D → Prop
  | unk {x} : x ∈ nms false → Puts 0 (.tup [.str "unknown", .str x])
  | put {k a p v} : Puts k a → Tm true 3 p → Tm true 3 v → Puts (k + 1) (.tup [.str "put", a, p, v])
theorem Puts.t {k : Nat} {a : D} (p : Puts k a) : Tm false (k + 3) a := by
  induction p with
  | unk hx => exact .unk hx
  | put _ hp hv ih => rw [Nat.add_right_comm]; exact .put ih (hp.mono (by omega)) (hv.mono (by omega))
theorem read_W {c : Int} (k : ∀ a p h', Pre h h' → Puts (c / 2 % 5).toNat a → Tm true 3 p → P (.tup [.str "read", a, p]) h') : ((tb.fns (n + 8)).call 40 [.int c] h).W P X := by
  rw [run40]
  walk_at "wq"
  refine stream fun l h1 j1 => ?_
  walk_at "wq"
  rw [b_mod (by decide), x_ref get_new]
  refine item_in (Q := fun x => _) (Int.emod_nonneg _ (by decide)) (Int.emod_lt_of_pos _ (by decide)) fun d hd => ?_
  have hd' : ∃ x, d = .str x ∧ x ∈ nms false := by
    simp only [List.mem_cons, List.not_mem_nil, or_false] at hd
    rcases hd with rfl | rfl
    · exact ⟨_, rfl, by decide⟩
    · exact ⟨_, rfl, by decide⟩
  obtain ⟨x, rfl, hx⟩ := hd'
  walk_at "wq"
  rw [b_fdivS (by decide) (by decide)]
  walk_at "wq"
  rw [b_mod (by decide)]
  have q0 := Int.emod_nonneg (c / 2) (show (5 : Int) ≠ 0 by decide)
  have q1 := Int.emod_lt_of_pos (c / 2) (show (0 : Int) < 5 by decide)
  generalize c / 2 % 5 = q at q0 q1 k ⊢
  walk_at "wq"
  rw [rngW_ok (by decide) (by decide) (by omega) (by omega)]
  rw [show q - 0 = q by omega]
  have bd : ∀ y : Int, (y % 4).toNat ≤ 3 ∧ y % 4 ≤ (3 : Nat) := fun y => by
    have := Int.emod_lt_of_pos y (show (0 : Int) < 4 by decide)
    omega
  have tm : ∀ {P : D → PH → Prop} {X : Nat → PH → Prop} {h' : PH} (y : Int), J h l h' → (∀ t h', J h l h' → Tm true 3 t → P t h') → ((tb.fns (n + 7)).call 38 [.ref l, .int (y % 4)] h').W P X := fun y j k =>
    (build 3).1 n (y % 4) (bd y).2 j fun t h' j' t' => k t h' j' (t'.mono (bd y).1)
  refine forR_W (fun j ρ h' => ∃ a z1 z2, ρ = [some (.int c), some (.ref l), some a, z1, z2] ∧ J h l h' ∧ Puts j a) 0 q.toNat ?_ ⟨_, none, none, rfl, j1.go (Pre.refl.app _), .unk hx⟩ ?_
  · intro j ρ h2 hj ⟨a, z1, z2, e, j2, pa⟩
    subst e
    rw [turn_W]
    walk_at "wq"
    rw [b_fdivS (by decide) (by decide)]
    walk_at "wq"
    rw [b_mod (by decide)]
    walk_at "wq"
    refine tm _ j2 fun t h3 j3 ht => ?_
    walk_at "wq"
    rw [b_fdivS (by decide) (by decide)]
    walk_at "wq"
    rw [b_mod (by decide)]
    walk_at "wq"
    refine tm _ j3 fun t4 h4 j4 ht4 => ?_
    exact ⟨kept_nil, _, _, _, rfl, j4, .put pa ht ht4⟩
  · intro ρ h2 ⟨a, z1, z2, e, j2, pa⟩
    subst e
    walk_at "wq"
    rw [b_fdivS (by decide) (by decide)]
    walk_at "wq"
    rw [b_mod (by decide)]
    walk_at "wq"
    refine tm _ j2 fun t h3 j3 ht => ?_
    exact k _ _ _ j3.pre pa ht
end
end Q41

set_option Elab.async false
set_option linter.all false
set_option maxRecDepth 100000
set_option maxHeartbeats 1000000
/-! Q41p4: kinds. -/
namespace Q41
open Mp Mp.Wp
open PySem (Str)
local macro_rules | `(tactic| walk_at "wp") => `(tactic| try simp -implicitDefEqProofs only [W_fin, s_nil, s_cons, s_pass, s_retN, s_asgn, s_asg, s_ex, s_ret, s_ife, s_aug, s_for, s_par, s_sfd, s_thru, e_cst, e_var, e_bin, e_neg, e_cmp, e_chain, chain_bl, e_and, e_or, e_not, e_ite, e_tup, e_lst, e_dct0, e_ix, e_sl, o_no, o_yes, es_nil, es_cons, e_call, e_bfn, e_met, e_callv, e_rev, e_cdct, e_fld, e_umt, e_mk, i_seq, i_enum, i_zip, i_rng1, i_rng2, t_name, t_tup, t_sub, ts_nil, ts_cons, c_nil, c_one, e_lc, byT_bl, b_add, b_sub, c_lt, c_le, c_gt, c_ge, c_eqI, c_neI, x_tup, x_scr, item_0, item_1, item_2, item_3, item_4, f_lenT, sl_tup, List.getElem?_cons_zero, List.getElem?_cons_succ, List.set_cons_zero, List.set_cons_succ, List.nil_append, List.append_nil, List.cons_append, List.length_nil, List.length_cons])
local macro_rules | `(tactic| walk_at "wq") => `(tactic| try simp -implicitDefEqProofs only [W_fin, s_nil, s_cons, s_pass, s_retN, s_asgn, s_asg, s_ex, s_ret, s_ife, s_aug, s_for, s_par, s_sfd, s_thru, e_cst, e_var, e_bin, e_neg, e_cmp, e_chain, chain_bl, e_and, e_or, e_not, e_ite, e_tup, e_lst, e_dct0, e_ix, e_sl, o_no, o_yes, es_nil, es_cons, e_call, e_bfn, e_met, e_callv, e_rev, e_cdct, e_fld, e_umt, e_mk, i_seq, i_enum, i_zip, i_rng1, i_rng2, t_name, t_tup, t_sub, ts_nil, ts_cons, c_nil, c_one, e_lc, byT_bl, b_add, b_sub, c_lt, c_le, c_gt, c_ge, c_eqI, c_neI, x_tup, x_scr, item_0, item_1, item_2, item_3, item_4, f_lenT, sl_tup, List.getElem?_cons_zero, List.getElem?_cons_succ, List.set_cons_zero, List.set_cons_succ, List.nil_append, List.append_nil, List.cons_append, List.length_nil, List.length_cons, mx, Nat.reduceAdd, Nat.reduceLeDiff, Nat.zero_le, true_and])
local macro_rules | `(tactic| walk_at "wz") => `(tactic| try simp -implicitDefEqProofs only [W_fin, s_nil, s_cons, s_pass, s_retN, s_asgn, s_asg, s_ex, s_ret, s_ife, s_aug, s_for, s_par, s_sfd, s_thru, e_cst, e_var, e_bin, e_neg, e_cmp, e_chain, chain_bl, e_and, e_or, e_not, e_ite, e_tup, e_lst, e_dct0, e_ix, e_sl, o_no, o_yes, es_nil, es_cons, e_call, e_bfn, e_met, e_callv, e_rev, e_cdct, e_fld, e_umt, e_mk, i_seq, i_enum, i_zip, i_rng1, i_rng2, t_name, t_tup, t_sub, ts_nil, ts_cons, c_nil, c_one, e_lc, byT_bl, b_add, b_sub, c_lt, c_le, c_gt, c_ge, c_eqI, c_neI, x_tup, x_scr, item_0, item_1, item_2, item_3, item_4, f_lenT, sl_tup, List.getElem?_cons_zero, List.getElem?_cons_succ, List.set_cons_zero, List.set_cons_succ, List.nil_append, List.append_nil, List.cons_append, List.length_nil, List.length_cons, mx, Nat.reduceAdd, Nat.reduceLeDiff, Nat.zero_le, true_and, f_isiT, f_isiS, if_true, if_false, ite_true, ite_false, ↓reduceIte, decide_true, decide_false, Bool.false_eq_true, Bool.not_true, Bool.not_false, c_isN, c_notN, eq_self, reduceCtorEq, Bool.and_true, Bool.true_and])
section
variable {P : D → PH → Prop} {X : Nat → PH → Prop} {h h0 : PH} {lx n : Nat}
theorem umt_W {F : Fns} {es : Exs} {ρ : Env} {l c f : Nat} {fs : List (Str × D)} {m : Str} (e1 : h[l]? = some (.ins c fs)) (e2 : F.mth c m = some f) (e3 : fs.lookup m = none) : umtW F m es ρ P X (.ref l) h = (evEs F es ρ h).W (fun xs h => (F.call f (.ref l :: xs) h).W P X) X := by
  simp only [umtW, e1, e2, e3]
theorem nms_nm : ∀ b, ∀ x ∈ nms b, x ∈ NM := by decide +kernel
theorem kn_pl (b : Bool) : Plain (.str (kn b)) := by cases b <;> (show plB 64 _ = true; decide +kernel)
theorem of_unknown {b : Bool} {l : Nat} {x : Str} (na : NamesAt h l) (hx : x ∈ nms b) (k : ∀ h', Pre h h' → P (.str (kn b)) h') : ((tb.fns (n + 3)).call 28 [.ref l, .str x] h).W P X := by
  rw [run28]
  walk_at "wq"
  refine is_name (nms_nm b x hx) fun h1 p1 => ?_
  walk_at "wz"
  obtain ⟨fs, a, c, e1, e2, e3, e4, e5, e6, e7⟩ := (na.mono p1)
  have na1 : NamesAt h1 l := ⟨fs, a, c, e1, e2, e3, e4, e5, e6, e7⟩
  rw [umt_W (f := 21) e1 rfl e6]
  walk_at "wz"
  rw [kind_m na1 hx]
  walk_at "wz"
  exact k _ p1
def tl : Nat → Ss → Ss
  | 0, s => s
  | n + 1, .cons _ r => tl n r
  | _, s => s
abbrev LEN : List (Str × D) := [("number", (.int 2)), ("unknown", (.int 2)), ("weigh", (.int 3)), ("plus", (.int 2)), ("call", (.int 3)), ("read", (.int 3)), ("put", (.int 4))]
theorem plE : Plain (.tup []) := by show plB 64 _ = true; decide +kernel
theorem kw_head {l : Nat} {w : Str} {r : List D} (pt : Plain (.tup (.str w :: r))) (hl : LEN.lookup w = some (.int ((r.length + 1 : Nat) : Int))) :
    ((tb.fns (n + 1)).call 30 [.ref l, .tup (.str w :: r)] h).W P X = (evSs (tb.fns n) (tl 3 b30) [some (.ref l), some (.tup (.str w :: r)), some (.str w), none] h).W (fun _ h => P .non h) P (fun _ _ => False) (fun _ _ => False) (fun c _ h => X c h) := by
  rw [run30]
  have e : ∃ s1 s2 s3, b30 = .cons s1 (.cons s2 (.cons s3 (tl 3 b30))) := ⟨_, _, _, rfl⟩
  generalize hb : tl 3 b30 = rest
  have : b30 = .cons (.ife (.or (.not (.bfn (.isi .tuple) (.cons (.var 1) .nil))) (.or (.cmp .eq (.var 1) (.tup .nil)) (.not (.bfn (.isi .str) (.cons (.ix (.var 1) (.cst (.int 0))) .nil))))) (.cons .stk .nil) .nil) (.cons (.asg (.name 2) (.ix (.var 1) (.cst (.int 0)))) (.cons (.ife (.cmp .ne (.cdct LEN (.var 2)) (.bfn .len (.cons (.var 1) .nil))) (.cons .stk .nil) .nil) rest)) := by rw [← hb]; rfl
  rw [this]
  walk_at "wz"
  simp only [c_eqP pt plE, byT_bl, D.tup.injEq, reduceCtorEq, decide_false, Bool.false_eq_true, if_false]
  walk_at "wz"
  rw [hl]
  have z : decide (((r.length + 1 : Nat) : Int) = ((r.length + 1 : Nat) : Int)) = true := by simp
  simp only [Option.getD_some, c_neI, List.length_cons, z, decide_true, Bool.not_true, byT_bl, Bool.false_eq_true, if_false]
theorem pw (x : Str) (h : PySem.PyData.strOk x = true := by decide +kernel) : Plain (.str x) := by show plB 64 _ = true; rw [pl_str]; exact h
/-- comparing two texts -/
theorem eq_s {x y : Str} {Q : D → PH → Prop} (hx : PySem.PyData.strOk x = true := by decide +kernel) (hy : PySem.PyData.strOk y = true := by decide +kernel) {k : Bool} (e : decide (x = y) = k := by decide +kernel) : (cmpop .eq (.str x) (.str y) h).W Q X = Q (.bl k) h := by
  rw [c_eqP (pw x hx) (pw y hy)]
  have : decide (D.str x = D.str y) = k := by rw [← e]; simp
  rw [this]
theorem q_unknown_unknown {Q : D → PH → Prop} : (cmpop .eq (.str "unknown") (.str "unknown") h).W Q X = Q (.bl true) h := eq_s
theorem q_unknown_call {Q : D → PH → Prop} : (cmpop .eq (.str "unknown") (.str "call") h).W Q X = Q (.bl false) h := eq_s
theorem q_unknown_put {Q : D → PH → Prop} : (cmpop .eq (.str "unknown") (.str "put") h).W Q X = Q (.bl false) h := eq_s
theorem q_unknown_read {Q : D → PH → Prop} : (cmpop .eq (.str "unknown") (.str "read") h).W Q X = Q (.bl false) h := eq_s
theorem q_unknown_plus {Q : D → PH → Prop} : (cmpop .eq (.str "unknown") (.str "plus") h).W Q X = Q (.bl false) h := eq_s
theorem q_unknown_weigh {Q : D → PH → Prop} : (cmpop .eq (.str "unknown") (.str "weigh") h).W Q X = Q (.bl false) h := eq_s
theorem q_unknown_same {Q : D → PH → Prop} : (cmpop .eq (.str "unknown") (.str "same") h).W Q X = Q (.bl false) h := eq_s
theorem q_call_unknown {Q : D → PH → Prop} : (cmpop .eq (.str "call") (.str "unknown") h).W Q X = Q (.bl false) h := eq_s
theorem q_call_call {Q : D → PH → Prop} : (cmpop .eq (.str "call") (.str "call") h).W Q X = Q (.bl true) h := eq_s
theorem q_call_put {Q : D → PH → Prop} : (cmpop .eq (.str "call") (.str "put") h).W Q X = Q (.bl false) h := eq_s
theorem q_call_read {Q : D → PH → Prop} : (cmpop .eq (.str "call") (.str "read") h).W Q X = Q (.bl false) h := eq_s
theorem q_call_plus {Q : D → PH → Prop} : (cmpop .eq (.str "call") (.str "plus") h).W Q X = Q (.bl false) h := eq_s
theorem q_call_weigh {Q : D → PH → Prop} : (cmpop .eq (.str "call") (.str "weigh") h).W Q X = Q (.bl false) h := eq_s
theorem q_call_same {Q : D → PH → Prop} : (cmpop .eq (.str "call") (.str "same") h).W Q X = Q (.bl false) h := eq_s
theorem q_put_unknown {Q : D → PH → Prop} : (cmpop .eq (.str "put") (.str "unknown") h).W Q X = Q (.bl false) h := eq_s
theorem q_put_call {Q : D → PH → Prop} : (cmpop .eq (.str "put") (.str "call") h).W Q X = Q (.bl false) h := eq_s
theorem q_put_put {Q : D → PH → Prop} : (cmpop .eq (.str "put") (.str "put") h).W Q X = Q (.bl true) h := eq_s
theorem q_put_read {Q : D → PH → Prop} : (cmpop .eq (.str "put") (.str "read") h).W Q X = Q (.bl false) h := eq_s
theorem q_put_plus {Q : D → PH → Prop} : (cmpop .eq (.str "put") (.str "plus") h).W Q X = Q (.bl false) h := eq_s
theorem q_put_weigh {Q : D → PH → Prop} : (cmpop .eq (.str "put") (.str "weigh") h).W Q X = Q (.bl false) h := eq_s
theorem q_put_same {Q : D → PH → Prop} : (cmpop .eq (.str "put") (.str "same") h).W Q X = Q (.bl false) h := eq_s
theorem q_read_unknown {Q : D → PH → Prop} : (cmpop .eq (.str "read") (.str "unknown") h).W Q X = Q (.bl false) h := eq_s
theorem q_read_call {Q : D → PH → Prop} : (cmpop .eq (.str "read") (.str "call") h).W Q X = Q (.bl false) h := eq_s
theorem q_read_put {Q : D → PH → Prop} : (cmpop .eq (.str "read") (.str "put") h).W Q X = Q (.bl false) h := eq_s
theorem q_read_read {Q : D → PH → Prop} : (cmpop .eq (.str "read") (.str "read") h).W Q X = Q (.bl true) h := eq_s
theorem q_read_plus {Q : D → PH → Prop} : (cmpop .eq (.str "read") (.str "plus") h).W Q X = Q (.bl false) h := eq_s
theorem q_read_weigh {Q : D → PH → Prop} : (cmpop .eq (.str "read") (.str "weigh") h).W Q X = Q (.bl false) h := eq_s
theorem q_read_same {Q : D → PH → Prop} : (cmpop .eq (.str "read") (.str "same") h).W Q X = Q (.bl false) h := eq_s
theorem q_plus_unknown {Q : D → PH → Prop} : (cmpop .eq (.str "plus") (.str "unknown") h).W Q X = Q (.bl false) h := eq_s
theorem q_plus_call {Q : D → PH → Prop} : (cmpop .eq (.str "plus") (.str "call") h).W Q X = Q (.bl false) h := eq_s
theorem q_plus_put {Q : D → PH → Prop} : (cmpop .eq (.str "plus") (.str "put") h).W Q X = Q (.bl false) h := eq_s
theorem q_plus_read {Q : D → PH → Prop} : (cmpop .eq (.str "plus") (.str "read") h).W Q X = Q (.bl false) h := eq_s
theorem q_plus_plus {Q : D → PH → Prop} : (cmpop .eq (.str "plus") (.str "plus") h).W Q X = Q (.bl true) h := eq_s
theorem q_plus_weigh {Q : D → PH → Prop} : (cmpop .eq (.str "plus") (.str "weigh") h).W Q X = Q (.bl false) h := eq_s
theorem q_plus_same {Q : D → PH → Prop} : (cmpop .eq (.str "plus") (.str "same") h).W Q X = Q (.bl false) h := eq_s
theorem q_weigh_unknown {Q : D → PH → Prop} : (cmpop .eq (.str "weigh") (.str "unknown") h).W Q X = Q (.bl false) h := eq_s
theorem q_weigh_call {Q : D → PH → Prop} : (cmpop .eq (.str "weigh") (.str "call") h).W Q X = Q (.bl false) h := eq_s
theorem q_weigh_put {Q : D → PH → Prop} : (cmpop .eq (.str "weigh") (.str "put") h).W Q X = Q (.bl false) h := eq_s
theorem q_weigh_read {Q : D → PH → Prop} : (cmpop .eq (.str "weigh") (.str "read") h).W Q X = Q (.bl false) h := eq_s
theorem q_weigh_plus {Q : D → PH → Prop} : (cmpop .eq (.str "weigh") (.str "plus") h).W Q X = Q (.bl false) h := eq_s
theorem q_weigh_weigh {Q : D → PH → Prop} : (cmpop .eq (.str "weigh") (.str "weigh") h).W Q X = Q (.bl true) h := eq_s
theorem q_weigh_same {Q : D → PH → Prop} : (cmpop .eq (.str "weigh") (.str "same") h).W Q X = Q (.bl false) h := eq_s
theorem q_number_unknown {Q : D → PH → Prop} : (cmpop .eq (.str "number") (.str "unknown") h).W Q X = Q (.bl false) h := eq_s
theorem q_number_call {Q : D → PH → Prop} : (cmpop .eq (.str "number") (.str "call") h).W Q X = Q (.bl false) h := eq_s
theorem q_number_put {Q : D → PH → Prop} : (cmpop .eq (.str "number") (.str "put") h).W Q X = Q (.bl false) h := eq_s
theorem q_number_read {Q : D → PH → Prop} : (cmpop .eq (.str "number") (.str "read") h).W Q X = Q (.bl false) h := eq_s
theorem q_number_plus {Q : D → PH → Prop} : (cmpop .eq (.str "number") (.str "plus") h).W Q X = Q (.bl false) h := eq_s
theorem q_number_weigh {Q : D → PH → Prop} : (cmpop .eq (.str "number") (.str "weigh") h).W Q X = Q (.bl false) h := eq_s
theorem q_number_same {Q : D → PH → Prop} : (cmpop .eq (.str "number") (.str "same") h).W Q X = Q (.bl false) h := eq_s
theorem q_same_unknown {Q : D → PH → Prop} : (cmpop .eq (.str "same") (.str "unknown") h).W Q X = Q (.bl false) h := eq_s
theorem q_same_call {Q : D → PH → Prop} : (cmpop .eq (.str "same") (.str "call") h).W Q X = Q (.bl false) h := eq_s
theorem q_same_put {Q : D → PH → Prop} : (cmpop .eq (.str "same") (.str "put") h).W Q X = Q (.bl false) h := eq_s
theorem q_same_read {Q : D → PH → Prop} : (cmpop .eq (.str "same") (.str "read") h).W Q X = Q (.bl false) h := eq_s
theorem q_same_plus {Q : D → PH → Prop} : (cmpop .eq (.str "same") (.str "plus") h).W Q X = Q (.bl false) h := eq_s
theorem q_same_weigh {Q : D → PH → Prop} : (cmpop .eq (.str "same") (.str "weigh") h).W Q X = Q (.bl false) h := eq_s
theorem q_same_same {Q : D → PH → Prop} : (cmpop .eq (.str "same") (.str "same") h).W Q X = Q (.bl true) h := eq_s
theorem q_and_unknown {Q : D → PH → Prop} : (cmpop .eq (.str "and") (.str "unknown") h).W Q X = Q (.bl false) h := eq_s
theorem q_and_call {Q : D → PH → Prop} : (cmpop .eq (.str "and") (.str "call") h).W Q X = Q (.bl false) h := eq_s
theorem q_and_put {Q : D → PH → Prop} : (cmpop .eq (.str "and") (.str "put") h).W Q X = Q (.bl false) h := eq_s
theorem q_and_read {Q : D → PH → Prop} : (cmpop .eq (.str "and") (.str "read") h).W Q X = Q (.bl false) h := eq_s
theorem q_and_plus {Q : D → PH → Prop} : (cmpop .eq (.str "and") (.str "plus") h).W Q X = Q (.bl false) h := eq_s
theorem q_and_weigh {Q : D → PH → Prop} : (cmpop .eq (.str "and") (.str "weigh") h).W Q X = Q (.bl false) h := eq_s
theorem q_and_same {Q : D → PH → Prop} : (cmpop .eq (.str "and") (.str "same") h).W Q X = Q (.bl false) h := eq_s
theorem q_or_unknown {Q : D → PH → Prop} : (cmpop .eq (.str "or") (.str "unknown") h).W Q X = Q (.bl false) h := eq_s
theorem q_or_call {Q : D → PH → Prop} : (cmpop .eq (.str "or") (.str "call") h).W Q X = Q (.bl false) h := eq_s
theorem q_or_put {Q : D → PH → Prop} : (cmpop .eq (.str "or") (.str "put") h).W Q X = Q (.bl false) h := eq_s
theorem q_or_read {Q : D → PH → Prop} : (cmpop .eq (.str "or") (.str "read") h).W Q X = Q (.bl false) h := eq_s
theorem q_or_plus {Q : D → PH → Prop} : (cmpop .eq (.str "or") (.str "plus") h).W Q X = Q (.bl false) h := eq_s
theorem q_or_weigh {Q : D → PH → Prop} : (cmpop .eq (.str "or") (.str "weigh") h).W Q X = Q (.bl false) h := eq_s
theorem q_or_same {Q : D → PH → Prop} : (cmpop .eq (.str "or") (.str "same") h).W Q X = Q (.bl false) h := eq_s
end
local macro_rules | `(tactic| walk_at "ws") => `(tactic| try simp -implicitDefEqProofs only [W_fin, s_nil, s_cons, s_pass, s_retN, s_asgn, s_asg, s_ex, s_ret, s_ife, s_aug, s_for, s_par, s_sfd, s_thru, e_cst, e_var, e_bin, e_neg, e_cmp, e_chain, chain_bl, e_and, e_or, e_not, e_ite, e_tup, e_lst, e_dct0, e_ix, e_sl, o_no, o_yes, es_nil, es_cons, e_call, e_bfn, e_met, e_callv, e_rev, e_cdct, e_fld, e_umt, e_mk, i_seq, i_enum, i_zip, i_rng1, i_rng2, t_name, t_tup, t_sub, ts_nil, ts_cons, c_nil, c_one, e_lc, byT_bl, b_add, b_sub, c_lt, c_le, c_gt, c_ge, c_eqI, c_neI, x_tup, x_scr, item_0, item_1, item_2, item_3, item_4, f_lenT, sl_tup, List.getElem?_cons_zero, List.getElem?_cons_succ, List.set_cons_zero, List.set_cons_succ, List.nil_append, List.append_nil, List.cons_append, List.length_nil, List.length_cons, mx, Nat.reduceAdd, Nat.reduceLeDiff, Nat.zero_le, true_and, f_isiT, f_isiS, if_true, if_false, ite_true, ite_false, ↓reduceIte, decide_true, decide_false, Bool.false_eq_true, Bool.not_true, Bool.not_false, c_isN, c_notN, eq_self, reduceCtorEq, Bool.and_true, Bool.true_and, q_unknown_unknown, q_unknown_call, q_unknown_put, q_unknown_read, q_unknown_plus, q_unknown_weigh, q_unknown_same, q_call_unknown, q_call_call, q_call_put, q_call_read, q_call_plus, q_call_weigh, q_call_same, q_put_unknown, q_put_call, q_put_put, q_put_read, q_put_plus, q_put_weigh, q_put_same, q_read_unknown, q_read_call, q_read_put, q_read_read, q_read_plus, q_read_weigh, q_read_same, q_plus_unknown, q_plus_call, q_plus_put, q_plus_read, q_plus_plus, q_plus_weigh, q_plus_same, q_weigh_unknown, q_weigh_call, q_weigh_put, q_weigh_read, q_weigh_plus, q_weigh_weigh, q_weigh_same, q_number_unknown, q_number_call, q_number_put, q_number_read, q_number_plus, q_number_weigh, q_number_same, q_same_unknown, q_same_call, q_same_put, q_same_read, q_same_plus, q_same_weigh, q_same_same, q_and_unknown, q_and_call, q_and_put, q_and_read, q_and_plus, q_and_weigh, q_and_same, q_or_unknown, q_or_call, q_or_put, q_or_read, q_or_plus, q_or_weigh, q_or_same])
/-- a term's kind, one deep -/
def KW (b : Bool) (k : Nat) (t : D) : Prop := ∀ {P : D → PH → Prop} {X : Nat → PH → Prop} {h : PH} {l : Nat} (n : Nat), NamesAt h l → (∀ h', Pre h h' → P (.str (kn b)) h') → ((tb.fns (n + 3 * k + 4)).call 30 [.ref l, t] h).W P X
theorem ck {b : Bool} {k : Nat} {t : D} (kw : KW b k t) {P : D → PH → Prop} {X : Nat → PH → Prop} {h : PH} {l : Nat} (n : Nat) (na : NamesAt h l) (kk : ∀ h', Pre h h' → P .non h') : ((tb.fns (n + 3 * k + 5)).call 26 [.ref l, t, .str (kn b)] h).W P X := by
  rw [run26]
  walk_at "wz"
  refine kw n na fun h1 p1 => ?_
  rw [c_neP (kn_pl b) (kn_pl b)]
  simp only [decide_true, Bool.not_true, byT_bl, Bool.false_eq_true, if_false]
  exact kk _ p1
theorem Tm.pl2 {b : Bool} {k : Nat} {t : D} (h : Tm b k t) (hk : k ≤ 30) : Plain t := pl_of h.pl (by omega)
theorem kw_unk {b : Bool} {k : Nat} {x : Str} (hx : x ∈ nms b) : KW b k (.tup [.str "unknown", .str x]) := by
  intro P X h l n na kk
  rw [kw_head (n := n + 3 * k + 3) ((Tm.unk hx : Tm b 0 _).pl2 (by decide)) (show LEN.lookup ("unknown" : Str) = some (.int 2) by decide +kernel)]
  simp only [tl]
  walk_at "ws"
  exact of_unknown (n := n + 3 * k) na hx kk
theorem kw_num {k : Nat} {f : D} (hf : f ∈ FR) : KW true k (.tup [.str "number", f]) := by
  intro P X h l n na kk
  rw [kw_head (n := n + 3 * k + 3) ((Tm.num hf : Tm true 0 _).pl2 (by decide)) (show LEN.lookup ("number" : Str) = some (.int 2) by decide +kernel)]
  simp only [tl]
  walk_at "ws"
  rw [is_frac (n := n + 3 * k) hf]
  walk_at "ws"
  exact kk _ .refl
theorem kw_weigh {k : Nat} {f t : D} (hf : f ∈ FR) (pt : Plain (.tup [.str "weigh", f, t])) (ht : KW true k t) : KW true (k + 1) (.tup [.str "weigh", f, t]) := by
  intro P X h l n na kk
  have e : n + 3 * (k + 1) + 4 = n + 1 + 3 * k + 5 + 1 := by omega
  rw [e, kw_head (n := n + 1 + 3 * k + 5) pt (show LEN.lookup ("weigh" : Str) = some (.int 3) by decide +kernel)]
  simp only [tl]
  walk_at "ws"
  rw [is_frac (n := n + 1 + 3 * k + 2) hf]
  walk_at "ws"
  refine ck ht (n + 1) na fun h1 p1 => ?_
  walk_at "ws"
  exact kk _ p1
theorem kw_read {k : Nat} {a p : D} (pt : Plain (.tup [.str "read", a, p])) (ha : KW false k a) (hp : KW true k p) : KW true (k + 1) (.tup [.str "read", a, p]) := by
  intro P X h l n na kk
  have e : n + 3 * (k + 1) + 4 = n + 1 + 3 * k + 5 + 1 := by omega
  rw [e, kw_head (n := n + 1 + 3 * k + 5) pt (show LEN.lookup ("read" : Str) = some (.int 3) by decide +kernel)]
  simp only [tl]
  walk_at "ws"
  refine ck ha (n + 1) na fun h1 p1 => ?_
  walk_at "ws"
  refine ck hp (n + 1) (na.mono p1) fun h2 p2 => ?_
  walk_at "ws"
  exact kk _ (p1.trans p2)
theorem kw_put {k : Nat} {a p v : D} (pt : Plain (.tup [.str "put", a, p, v])) (ha : KW false k a) (hp : KW true k p) (hv : KW true k v) : KW false (k + 1) (.tup [.str "put", a, p, v]) := by
  intro P X h l n na kk
  have e : n + 3 * (k + 1) + 4 = n + 1 + 3 * k + 5 + 1 := by omega
  rw [e, kw_head (n := n + 1 + 3 * k + 5) pt (show LEN.lookup ("put" : Str) = some (.int 4) by decide +kernel)]
  simp only [tl]
  walk_at "ws"
  refine ck ha (n + 1) na fun h1 p1 => ?_
  walk_at "ws"
  refine ck hp (n + 1) (na.mono p1) fun h2 p2 => ?_
  walk_at "ws"
  refine ck hv (n + 1) (na.mono (p1.trans p2)) fun h3 p3 => ?_
  walk_at "ws"
  exact kk _ ((p1.trans p2).trans p3)
theorem kw_plus {k : Nat} {s t : D} (pt : Plain (.tup [.str "plus", .tup [s, t]])) (hs : KW true k s) (ht : KW true k t) : KW true (k + 1) (.tup [.str "plus", .tup [s, t]]) := by
  intro P X h l n na kk
  have e : n + 3 * (k + 1) + 4 = n + 1 + 3 * k + 5 + 1 := by omega
  rw [e, kw_head (n := n + 1 + 3 * k + 5) pt (show LEN.lookup ("plus" : Str) = some (.int 2) by decide +kernel)]
  simp only [tl]
  walk_at "ws"
  rw [seqW_of (xs := [s, t]) rfl]
  refine forI_W (fun j ρ h' => ∃ z, ρ = [some (.ref l), some (.tup [.str "plus", .tup [s, t]]), some (.str "plus"), z] ∧ Pre h h') [s, t] ?_ ⟨none, rfl, .refl⟩ ?_
  · intro j x ρ h1 hx ⟨z, e, p1⟩
    subst e
    have kx : KW true k x := by
      have : x ∈ [s, t] := List.mem_of_getElem? hx
      simp only [List.mem_cons, List.not_mem_nil, or_false] at this
      rcases this with rfl | rfl
      · exact @hs
      · exact @ht
    rw [turn_W]
    walk_at "ws"
    refine ck kx (n + 1) (na.mono p1) fun h2 p2 => ?_
    walk_at "ws"
    exact ⟨kept_nil, _, rfl, p1.trans p2⟩
  · intro ρ h1 ⟨z, e, p1⟩
    subst e
    walk_at "ws"
    exact kk _ p1
theorem kw_call {k : Nat} {t : D} (pt : Plain (.tup [.str "call", .str "f", .tup [t]])) (ht : KW true k t) : KW true (k + 1) (.tup [.str "call", .str "f", .tup [t]]) := by
  intro P X h l n na kk
  have e : n + 3 * (k + 1) + 4 = n + 3 * k + 5 + 1 + 1 := by omega
  rw [e, kw_head (n := n + 3 * k + 5 + 1) pt (show LEN.lookup ("call" : Str) = some (.int 3) by decide +kernel)]
  simp only [tl]
  walk_at "ws"
  rw [run27]
  walk_at "ws"
  refine is_name (n := n + 3 * k + 4) (by decide +kernel) fun h1 p1 => ?_
  walk_at "ws"
  have na1 := na.mono p1
  obtain ⟨fs, a, c, e1, e2, e3, e4, e5, e6, e7⟩ := na1
  rw [umt_W (f := 23) e1 rfl e7]
  walk_at "ws"
  refine func_m (n := n + 3 * k + 3) ⟨fs, a, c, e1, e2, e3, e4, e5, e6, e7⟩ ?_
  walk_at "ws"
  refine forI_W (fun j ρ h' => ∃ z1 z2, ρ = [some (.ref l), some (.str "f"), some (.tup [t]), some (.tup [.tup [.str "num"], .str "num"]), z1, z2] ∧ Pre h h') [.tup [t, .str "num"]] ?_ ⟨none, none, rfl, p1⟩ ?_
  · intro j x ρ h2 hx ⟨z1, z2, e, p2⟩
    subst e
    have : x = .tup [t, .str "num"] := by
      have := List.mem_of_getElem? hx
      simpa using this
    subst this
    rw [turn_W]
    simp only [t_tup, show seqOf h2 (.tup [t, .str "num"]) = some [t, .str "num"] from rfl]
    walk_at "ws"
    refine ck ht n (na.mono p2) fun h3 p3 => ?_
    walk_at "ws"
    exact ⟨kept_nil, _, _, rfl, p2.trans p3⟩
  · intro ρ h2 ⟨z1, z2, e, p2⟩
    subst e
    walk_at "ws"
    exact kk _ p2
theorem kw {b : Bool} {k : Nat} {t : D} (h : Tm b k t) (hk : k ≤ 30) : KW b k t := by
  induction h with
  | unk hx => exact kw_unk hx
  | num hf => exact kw_num hf
  | weigh hf ht ih => exact kw_weigh hf ((Tm.weigh hf ht).pl2 hk) (ih (by omega))
  | call ht ih => exact kw_call ((Tm.call ht).pl2 hk) (ih (by omega))
  | read ha hp i1 i2 => exact kw_read ((Tm.read ha hp).pl2 hk) (i1 (by omega)) (i2 (by omega))
  | plus ha hp i1 i2 => exact kw_plus ((Tm.plus ha hp).pl2 hk) (i1 (by omega)) (i2 (by omega))
  | put ha hp hv i1 i2 i3 => exact kw_put ((Tm.put ha hp hv).pl2 hk) (i1 (by omega)) (i2 (by omega)) (i3 (by omega))
end Q41

set_option Elab.async false
set_option linter.all false
set_option maxRecDepth 100000
set_option maxHeartbeats 1000000
/-! Q41p5: depth. -/
namespace Q41
open Mp Mp.Wp
open PySem (Str)
local macro_rules | `(tactic| walk_at "wp") => `(tactic| try simp -implicitDefEqProofs only [W_fin, s_nil, s_cons, s_pass, s_retN, s_asgn, s_asg, s_ex, s_ret, s_ife, s_aug, s_for, s_par, s_sfd, s_thru, e_cst, e_var, e_bin, e_neg, e_cmp, e_chain, chain_bl, e_and, e_or, e_not, e_ite, e_tup, e_lst, e_dct0, e_ix, e_sl, o_no, o_yes, es_nil, es_cons, e_call, e_bfn, e_met, e_callv, e_rev, e_cdct, e_fld, e_umt, e_mk, i_seq, i_enum, i_zip, i_rng1, i_rng2, t_name, t_tup, t_sub, ts_nil, ts_cons, c_nil, c_one, e_lc, byT_bl, b_add, b_sub, c_lt, c_le, c_gt, c_ge, c_eqI, c_neI, x_tup, x_scr, item_0, item_1, item_2, item_3, item_4, f_lenT, sl_tup, List.getElem?_cons_zero, List.getElem?_cons_succ, List.set_cons_zero, List.set_cons_succ, List.nil_append, List.append_nil, List.cons_append, List.length_nil, List.length_cons])
local macro_rules | `(tactic| walk_at "wq") => `(tactic| try simp -implicitDefEqProofs only [W_fin, s_nil, s_cons, s_pass, s_retN, s_asgn, s_asg, s_ex, s_ret, s_ife, s_aug, s_for, s_par, s_sfd, s_thru, e_cst, e_var, e_bin, e_neg, e_cmp, e_chain, chain_bl, e_and, e_or, e_not, e_ite, e_tup, e_lst, e_dct0, e_ix, e_sl, o_no, o_yes, es_nil, es_cons, e_call, e_bfn, e_met, e_callv, e_rev, e_cdct, e_fld, e_umt, e_mk, i_seq, i_enum, i_zip, i_rng1, i_rng2, t_name, t_tup, t_sub, ts_nil, ts_cons, c_nil, c_one, e_lc, byT_bl, b_add, b_sub, c_lt, c_le, c_gt, c_ge, c_eqI, c_neI, x_tup, x_scr, item_0, item_1, item_2, item_3, item_4, f_lenT, sl_tup, List.getElem?_cons_zero, List.getElem?_cons_succ, List.set_cons_zero, List.set_cons_succ, List.nil_append, List.append_nil, List.cons_append, List.length_nil, List.length_cons, mx, Nat.reduceAdd, Nat.reduceLeDiff, Nat.zero_le, true_and])
local macro_rules | `(tactic| walk_at "wz") => `(tactic| try simp -implicitDefEqProofs only [W_fin, s_nil, s_cons, s_pass, s_retN, s_asgn, s_asg, s_ex, s_ret, s_ife, s_aug, s_for, s_par, s_sfd, s_thru, e_cst, e_var, e_bin, e_neg, e_cmp, e_chain, chain_bl, e_and, e_or, e_not, e_ite, e_tup, e_lst, e_dct0, e_ix, e_sl, o_no, o_yes, es_nil, es_cons, e_call, e_bfn, e_met, e_callv, e_rev, e_cdct, e_fld, e_umt, e_mk, i_seq, i_enum, i_zip, i_rng1, i_rng2, t_name, t_tup, t_sub, ts_nil, ts_cons, c_nil, c_one, e_lc, byT_bl, b_add, b_sub, c_lt, c_le, c_gt, c_ge, c_eqI, c_neI, x_tup, x_scr, item_0, item_1, item_2, item_3, item_4, f_lenT, sl_tup, List.getElem?_cons_zero, List.getElem?_cons_succ, List.set_cons_zero, List.set_cons_succ, List.nil_append, List.append_nil, List.cons_append, List.length_nil, List.length_cons, mx, Nat.reduceAdd, Nat.reduceLeDiff, Nat.zero_le, true_and, f_isiT, f_isiS, if_true, if_false, ite_true, ite_false, ↓reduceIte, decide_true, decide_false, Bool.false_eq_true, Bool.not_true, Bool.not_false, c_isN, c_notN, eq_self, reduceCtorEq, Bool.and_true, Bool.true_and])
local macro_rules | `(tactic| walk_at "ws") => `(tactic| try simp -implicitDefEqProofs only [W_fin, s_nil, s_cons, s_pass, s_retN, s_asgn, s_asg, s_ex, s_ret, s_ife, s_aug, s_for, s_par, s_sfd, s_thru, e_cst, e_var, e_bin, e_neg, e_cmp, e_chain, chain_bl, e_and, e_or, e_not, e_ite, e_tup, e_lst, e_dct0, e_ix, e_sl, o_no, o_yes, es_nil, es_cons, e_call, e_bfn, e_met, e_callv, e_rev, e_cdct, e_fld, e_umt, e_mk, i_seq, i_enum, i_zip, i_rng1, i_rng2, t_name, t_tup, t_sub, ts_nil, ts_cons, c_nil, c_one, e_lc, byT_bl, b_add, b_sub, c_lt, c_le, c_gt, c_ge, c_eqI, c_neI, x_tup, x_scr, item_0, item_1, item_2, item_3, item_4, f_lenT, sl_tup, List.getElem?_cons_zero, List.getElem?_cons_succ, List.set_cons_zero, List.set_cons_succ, List.nil_append, List.append_nil, List.cons_append, List.length_nil, List.length_cons, mx, Nat.reduceAdd, Nat.reduceLeDiff, Nat.zero_le, true_and, f_isiT, f_isiS, if_true, if_false, ite_true, ite_false, ↓reduceIte, decide_true, decide_false, Bool.false_eq_true, Bool.not_true, Bool.not_false, c_isN, c_notN, eq_self, reduceCtorEq, Bool.and_true, Bool.true_and, q_unknown_unknown, q_unknown_call, q_unknown_put, q_unknown_read, q_unknown_plus, q_unknown_weigh, q_unknown_same, q_call_unknown, q_call_call, q_call_put, q_call_read, q_call_plus, q_call_weigh, q_call_same, q_put_unknown, q_put_call, q_put_put, q_put_read, q_put_plus, q_put_weigh, q_put_same, q_read_unknown, q_read_call, q_read_put, q_read_read, q_read_plus, q_read_weigh, q_read_same, q_plus_unknown, q_plus_call, q_plus_put, q_plus_read, q_plus_plus, q_plus_weigh, q_plus_same, q_weigh_unknown, q_weigh_call, q_weigh_put, q_weigh_read, q_weigh_plus, q_weigh_weigh, q_weigh_same, q_number_unknown, q_number_call, q_number_put, q_number_read, q_number_plus, q_number_weigh, q_number_same, q_same_unknown, q_same_call, q_same_put, q_same_read, q_same_plus, q_same_weigh, q_same_same, q_and_unknown, q_and_call, q_and_put, q_and_read, q_and_plus, q_and_weigh, q_and_same, q_or_unknown, q_or_call, q_or_put, q_or_read, q_or_plus, q_or_weigh, q_or_same])
/-- what a term holds -/
def kids : D → List D
  | .tup [.str _, .tup [s, t]] => [s, t]
  | _ => []
section
variable {P : D → PH → Prop} {X : Nat → PH → Prop} {h h0 : PH} {lx n : Nat}
theorem in_tup {a : D} {ys : List D} {Q : D → PH → Prop} {m : Nat} (ha : plB m a = true) (hy : ∀ y ∈ ys, plB m y = true) (hm : m ≤ 63 := by decide) : (cmpop .ein a (.tup ys) h).W Q X = Q (.bl (decide (a ∈ ys))) h := c_in (memD_tup ha hy hm)
theorem i_number_nu {Q : D → PH → Prop} : (cmpop .ein (.str "number") (.tup [.str "number", .str "unknown"]) h).W Q X = Q (.bl true) h := by
  rw [in_tup (m := 1) (by decide +kernel) (by decide +kernel), show decide ((D.str "number") ∈ ([.str "number", .str "unknown"] : List D)) = true by decide +kernel]
theorem i_number_wc {Q : D → PH → Prop} : (cmpop .ein (.str "number") (.tup [.str "weigh", .str "call"]) h).W Q X = Q (.bl false) h := by
  rw [in_tup (m := 1) (by decide +kernel) (by decide +kernel), show decide ((D.str "number") ∈ ([.str "weigh", .str "call"] : List D)) = false by decide +kernel]
theorem i_number_pc {Q : D → PH → Prop} : (cmpop .ein (.str "number") (.tup [.str "plus", .str "call", .str "and", .str "or"]) h).W Q X = Q (.bl false) h := by
  rw [in_tup (m := 1) (by decide +kernel) (by decide +kernel), show decide ((D.str "number") ∈ ([.str "plus", .str "call", .str "and", .str "or"] : List D)) = false by decide +kernel]
theorem i_number_at {Q : D → PH → Prop} : (cmpop .ein (.str "number") (.tup [.str "atmost", .str "below", .str "same"]) h).W Q X = Q (.bl false) h := by
  rw [in_tup (m := 1) (by decide +kernel) (by decide +kernel), show decide ((D.str "number") ∈ ([.str "atmost", .str "below", .str "same"] : List D)) = false by decide +kernel]
theorem i_unknown_nu {Q : D → PH → Prop} : (cmpop .ein (.str "unknown") (.tup [.str "number", .str "unknown"]) h).W Q X = Q (.bl true) h := by
  rw [in_tup (m := 1) (by decide +kernel) (by decide +kernel), show decide ((D.str "unknown") ∈ ([.str "number", .str "unknown"] : List D)) = true by decide +kernel]
theorem i_unknown_wc {Q : D → PH → Prop} : (cmpop .ein (.str "unknown") (.tup [.str "weigh", .str "call"]) h).W Q X = Q (.bl false) h := by
  rw [in_tup (m := 1) (by decide +kernel) (by decide +kernel), show decide ((D.str "unknown") ∈ ([.str "weigh", .str "call"] : List D)) = false by decide +kernel]
theorem i_unknown_pc {Q : D → PH → Prop} : (cmpop .ein (.str "unknown") (.tup [.str "plus", .str "call", .str "and", .str "or"]) h).W Q X = Q (.bl false) h := by
  rw [in_tup (m := 1) (by decide +kernel) (by decide +kernel), show decide ((D.str "unknown") ∈ ([.str "plus", .str "call", .str "and", .str "or"] : List D)) = false by decide +kernel]
theorem i_unknown_at {Q : D → PH → Prop} : (cmpop .ein (.str "unknown") (.tup [.str "atmost", .str "below", .str "same"]) h).W Q X = Q (.bl false) h := by
  rw [in_tup (m := 1) (by decide +kernel) (by decide +kernel), show decide ((D.str "unknown") ∈ ([.str "atmost", .str "below", .str "same"] : List D)) = false by decide +kernel]
theorem i_weigh_nu {Q : D → PH → Prop} : (cmpop .ein (.str "weigh") (.tup [.str "number", .str "unknown"]) h).W Q X = Q (.bl false) h := by
  rw [in_tup (m := 1) (by decide +kernel) (by decide +kernel), show decide ((D.str "weigh") ∈ ([.str "number", .str "unknown"] : List D)) = false by decide +kernel]
theorem i_weigh_wc {Q : D → PH → Prop} : (cmpop .ein (.str "weigh") (.tup [.str "weigh", .str "call"]) h).W Q X = Q (.bl true) h := by
  rw [in_tup (m := 1) (by decide +kernel) (by decide +kernel), show decide ((D.str "weigh") ∈ ([.str "weigh", .str "call"] : List D)) = true by decide +kernel]
theorem i_weigh_pc {Q : D → PH → Prop} : (cmpop .ein (.str "weigh") (.tup [.str "plus", .str "call", .str "and", .str "or"]) h).W Q X = Q (.bl false) h := by
  rw [in_tup (m := 1) (by decide +kernel) (by decide +kernel), show decide ((D.str "weigh") ∈ ([.str "plus", .str "call", .str "and", .str "or"] : List D)) = false by decide +kernel]
theorem i_weigh_at {Q : D → PH → Prop} : (cmpop .ein (.str "weigh") (.tup [.str "atmost", .str "below", .str "same"]) h).W Q X = Q (.bl false) h := by
  rw [in_tup (m := 1) (by decide +kernel) (by decide +kernel), show decide ((D.str "weigh") ∈ ([.str "atmost", .str "below", .str "same"] : List D)) = false by decide +kernel]
theorem i_call_nu {Q : D → PH → Prop} : (cmpop .ein (.str "call") (.tup [.str "number", .str "unknown"]) h).W Q X = Q (.bl false) h := by
  rw [in_tup (m := 1) (by decide +kernel) (by decide +kernel), show decide ((D.str "call") ∈ ([.str "number", .str "unknown"] : List D)) = false by decide +kernel]
theorem i_call_wc {Q : D → PH → Prop} : (cmpop .ein (.str "call") (.tup [.str "weigh", .str "call"]) h).W Q X = Q (.bl true) h := by
  rw [in_tup (m := 1) (by decide +kernel) (by decide +kernel), show decide ((D.str "call") ∈ ([.str "weigh", .str "call"] : List D)) = true by decide +kernel]
theorem i_call_pc {Q : D → PH → Prop} : (cmpop .ein (.str "call") (.tup [.str "plus", .str "call", .str "and", .str "or"]) h).W Q X = Q (.bl true) h := by
  rw [in_tup (m := 1) (by decide +kernel) (by decide +kernel), show decide ((D.str "call") ∈ ([.str "plus", .str "call", .str "and", .str "or"] : List D)) = true by decide +kernel]
theorem i_call_at {Q : D → PH → Prop} : (cmpop .ein (.str "call") (.tup [.str "atmost", .str "below", .str "same"]) h).W Q X = Q (.bl false) h := by
  rw [in_tup (m := 1) (by decide +kernel) (by decide +kernel), show decide ((D.str "call") ∈ ([.str "atmost", .str "below", .str "same"] : List D)) = false by decide +kernel]
theorem i_read_nu {Q : D → PH → Prop} : (cmpop .ein (.str "read") (.tup [.str "number", .str "unknown"]) h).W Q X = Q (.bl false) h := by
  rw [in_tup (m := 1) (by decide +kernel) (by decide +kernel), show decide ((D.str "read") ∈ ([.str "number", .str "unknown"] : List D)) = false by decide +kernel]
theorem i_read_wc {Q : D → PH → Prop} : (cmpop .ein (.str "read") (.tup [.str "weigh", .str "call"]) h).W Q X = Q (.bl false) h := by
  rw [in_tup (m := 1) (by decide +kernel) (by decide +kernel), show decide ((D.str "read") ∈ ([.str "weigh", .str "call"] : List D)) = false by decide +kernel]
theorem i_read_pc {Q : D → PH → Prop} : (cmpop .ein (.str "read") (.tup [.str "plus", .str "call", .str "and", .str "or"]) h).W Q X = Q (.bl false) h := by
  rw [in_tup (m := 1) (by decide +kernel) (by decide +kernel), show decide ((D.str "read") ∈ ([.str "plus", .str "call", .str "and", .str "or"] : List D)) = false by decide +kernel]
theorem i_read_at {Q : D → PH → Prop} : (cmpop .ein (.str "read") (.tup [.str "atmost", .str "below", .str "same"]) h).W Q X = Q (.bl false) h := by
  rw [in_tup (m := 1) (by decide +kernel) (by decide +kernel), show decide ((D.str "read") ∈ ([.str "atmost", .str "below", .str "same"] : List D)) = false by decide +kernel]
theorem i_plus_nu {Q : D → PH → Prop} : (cmpop .ein (.str "plus") (.tup [.str "number", .str "unknown"]) h).W Q X = Q (.bl false) h := by
  rw [in_tup (m := 1) (by decide +kernel) (by decide +kernel), show decide ((D.str "plus") ∈ ([.str "number", .str "unknown"] : List D)) = false by decide +kernel]
theorem i_plus_wc {Q : D → PH → Prop} : (cmpop .ein (.str "plus") (.tup [.str "weigh", .str "call"]) h).W Q X = Q (.bl false) h := by
  rw [in_tup (m := 1) (by decide +kernel) (by decide +kernel), show decide ((D.str "plus") ∈ ([.str "weigh", .str "call"] : List D)) = false by decide +kernel]
theorem i_plus_pc {Q : D → PH → Prop} : (cmpop .ein (.str "plus") (.tup [.str "plus", .str "call", .str "and", .str "or"]) h).W Q X = Q (.bl true) h := by
  rw [in_tup (m := 1) (by decide +kernel) (by decide +kernel), show decide ((D.str "plus") ∈ ([.str "plus", .str "call", .str "and", .str "or"] : List D)) = true by decide +kernel]
theorem i_plus_at {Q : D → PH → Prop} : (cmpop .ein (.str "plus") (.tup [.str "atmost", .str "below", .str "same"]) h).W Q X = Q (.bl false) h := by
  rw [in_tup (m := 1) (by decide +kernel) (by decide +kernel), show decide ((D.str "plus") ∈ ([.str "atmost", .str "below", .str "same"] : List D)) = false by decide +kernel]
theorem i_put_nu {Q : D → PH → Prop} : (cmpop .ein (.str "put") (.tup [.str "number", .str "unknown"]) h).W Q X = Q (.bl false) h := by
  rw [in_tup (m := 1) (by decide +kernel) (by decide +kernel), show decide ((D.str "put") ∈ ([.str "number", .str "unknown"] : List D)) = false by decide +kernel]
theorem i_put_wc {Q : D → PH → Prop} : (cmpop .ein (.str "put") (.tup [.str "weigh", .str "call"]) h).W Q X = Q (.bl false) h := by
  rw [in_tup (m := 1) (by decide +kernel) (by decide +kernel), show decide ((D.str "put") ∈ ([.str "weigh", .str "call"] : List D)) = false by decide +kernel]
theorem i_put_pc {Q : D → PH → Prop} : (cmpop .ein (.str "put") (.tup [.str "plus", .str "call", .str "and", .str "or"]) h).W Q X = Q (.bl false) h := by
  rw [in_tup (m := 1) (by decide +kernel) (by decide +kernel), show decide ((D.str "put") ∈ ([.str "plus", .str "call", .str "and", .str "or"] : List D)) = false by decide +kernel]
theorem i_put_at {Q : D → PH → Prop} : (cmpop .ein (.str "put") (.tup [.str "atmost", .str "below", .str "same"]) h).W Q X = Q (.bl false) h := by
  rw [in_tup (m := 1) (by decide +kernel) (by decide +kernel), show decide ((D.str "put") ∈ ([.str "atmost", .str "below", .str "same"] : List D)) = false by decide +kernel]
theorem i_same_nu {Q : D → PH → Prop} : (cmpop .ein (.str "same") (.tup [.str "number", .str "unknown"]) h).W Q X = Q (.bl false) h := by
  rw [in_tup (m := 1) (by decide +kernel) (by decide +kernel), show decide ((D.str "same") ∈ ([.str "number", .str "unknown"] : List D)) = false by decide +kernel]
theorem i_same_wc {Q : D → PH → Prop} : (cmpop .ein (.str "same") (.tup [.str "weigh", .str "call"]) h).W Q X = Q (.bl false) h := by
  rw [in_tup (m := 1) (by decide +kernel) (by decide +kernel), show decide ((D.str "same") ∈ ([.str "weigh", .str "call"] : List D)) = false by decide +kernel]
theorem i_same_pc {Q : D → PH → Prop} : (cmpop .ein (.str "same") (.tup [.str "plus", .str "call", .str "and", .str "or"]) h).W Q X = Q (.bl false) h := by
  rw [in_tup (m := 1) (by decide +kernel) (by decide +kernel), show decide ((D.str "same") ∈ ([.str "plus", .str "call", .str "and", .str "or"] : List D)) = false by decide +kernel]
theorem i_same_at {Q : D → PH → Prop} : (cmpop .ein (.str "same") (.tup [.str "atmost", .str "below", .str "same"]) h).W Q X = Q (.bl true) h := by
  rw [in_tup (m := 1) (by decide +kernel) (by decide +kernel), show decide ((D.str "same") ∈ ([.str "atmost", .str "below", .str "same"] : List D)) = true by decide +kernel]
theorem cut_a {a b c : D} : cut [a, b, c] (some 2) (some 3) = [c] := rfl
theorem cut_b {a b c : D} : cut [a, b, c] (some 1) none = [b, c] := rfl
theorem cut_c {a b c d : D} : cut [a, b, c, d] (some 1) none = [b, c, d] := rfl
theorem cut_d {a b : D} : cut [a, b] (some 1) none = [b] := rfl
end
local macro_rules | `(tactic| walk_at "wt") => `(tactic| try simp -implicitDefEqProofs only [W_fin, s_nil, s_cons, s_pass, s_retN, s_asgn, s_asg, s_ex, s_ret, s_ife, s_aug, s_for, s_par, s_sfd, s_thru, e_cst, e_var, e_bin, e_neg, e_cmp, e_chain, chain_bl, e_and, e_or, e_not, e_ite, e_tup, e_lst, e_dct0, e_ix, e_sl, o_no, o_yes, es_nil, es_cons, e_call, e_bfn, e_met, e_callv, e_rev, e_cdct, e_fld, e_umt, e_mk, i_seq, i_enum, i_zip, i_rng1, i_rng2, t_name, t_tup, t_sub, ts_nil, ts_cons, c_nil, c_one, byT_bl, b_add, b_sub, c_lt, c_le, c_gt, c_ge, c_eqI, c_neI, x_tup, x_scr, item_0, item_1, item_2, item_3, item_4, f_lenT, sl_tup, List.getElem?_cons_zero, List.getElem?_cons_succ, List.set_cons_zero, List.set_cons_succ, List.nil_append, List.append_nil, List.cons_append, List.length_nil, List.length_cons, mx, Nat.reduceAdd, Nat.reduceLeDiff, Nat.zero_le, true_and, f_isiT, f_isiS, if_true, if_false, ite_true, ite_false, ↓reduceIte, decide_true, decide_false, Bool.false_eq_true, Bool.not_true, Bool.not_false, c_isN, c_notN, eq_self, reduceCtorEq, Bool.and_true, Bool.true_and, i_number_nu, i_number_wc, i_number_pc, i_number_at, i_unknown_nu, i_unknown_wc, i_unknown_pc, i_unknown_at, i_weigh_nu, i_weigh_wc, i_weigh_pc, i_weigh_at, i_call_nu, i_call_wc, i_call_pc, i_call_at, i_read_nu, i_read_wc, i_read_pc, i_read_at, i_plus_nu, i_plus_wc, i_plus_pc, i_plus_at, i_put_nu, i_put_wc, i_put_pc, i_put_at, i_same_nu, i_same_wc, i_same_pc, i_same_at, cut_a, cut_b, cut_c, cut_d])
section
variable {P : D → PH → Prop} {X : Nat → PH → Prop} {h h0 : PH} {lx n : Nat}
/-- the list of the tuples of some tuple -/
theorem tups {xs : List D} {F : Fns} {Q : D → PH → Prop} {X : Nat → PH → Prop} {a b : Option D} (hx : ∀ x ∈ xs, ∃ y, x = .tup y) (hl : xs.length ≤ 3) (k : Q (.ref h.length) (h ++ [.lst xs])) :
    (evE F (.lc (.var 2) (.name 2) (.seq (.var 1)) (.cons (.bfn (.isi .tuple) (.cons (.var 2) .nil)) .nil) [2]) [a, some (.tup xs), b] h).W Q X := by
  rw [e_lc, i_seq, e_var]
  simp only [List.getElem?_cons_succ, List.getElem?_cons_zero]
  rw [seqW_of (xs := xs) rfl]
  refine lcS_W some (fun h' => h' = h) xs [] h ?_ rfl (by simp [mx]; omega) ?_
  · rintro x hm h' rfl
    obtain ⟨y, rfl⟩ := hx x hm
    rw [lturn_W, t_name]
    simp only [wipeE, c_one, List.set_cons_succ, List.set_cons_zero, e_bfn, es_cons, es_nil, e_var, List.getElem?_cons_succ, List.getElem?_cons_zero, f_isiT, decide_true, byT_bl, if_true]
    exact ⟨trivial, kept_nil, trivial⟩
  · rintro h' rfl
    rw [List.nil_append, List.filterMap_some]
    exact k
theorem Tm.tup {b : Bool} {k : Nat} {t : D} (h : Tm b k t) : ∃ y, t = .tup y := by cases h <;> exact ⟨_, rfl⟩
def dmy : Nat := 0
theorem mh_test {w : Str} {r : List D} (pt : Plain (.tup (.str w :: r))) (k : (evSs (tb.fns n) (tl 1 b24) [some (.tup (.str w :: r)), none, none] h).W (fun _ h => P .non h) P (fun _ _ => False) (fun _ _ => False) (fun c _ h => X c h)) :
    ((tb.fns (n + 1)).call 24 [.tup (.str w :: r)] h).W P X := by
  rw [run24]
  generalize hb : tl 1 b24 = rest at k
  have : b24 = .cons (.ife (.or (.not (.bfn (.isi .tuple) (.cons (.var 0) .nil))) (.or (.cmp .eq (.var 0) (.tup .nil)) (.not (.bfn (.isi .str) (.cons (.ix (.var 0) (.cst (.int 0))) .nil))))) (.cons (.ret (.lst .nil)) .nil) .nil) rest := by rw [← hb]; rfl
  rw [this]
  walk_at "wz"
  simp only [c_eqP pt plE, byT_bl, D.tup.injEq, reduceCtorEq, decide_false, Bool.false_eq_true, if_false]
  walk_at "wz"
  exact k
theorem mh_num {f : D} (hf : f ∈ FR) (k : P (.ref h.length) (h ++ [.lst []])) : ((tb.fns (n + 1)).call 24 [.tup [.str "number", f]] h).W P X := by
  refine mh_test ((Tm.num hf : Tm true 0 _).pl2 (by decide)) ?_
  simp only [tl]
  walk_at "wt"
  exact k
theorem mh_unk {b : Bool} {x : Str} (hx : x ∈ nms b) (k : P (.ref h.length) (h ++ [.lst []])) : ((tb.fns (n + 1)).call 24 [.tup [.str "unknown", .str x]] h).W P X := by
  refine mh_test ((Tm.unk hx : Tm b 0 _).pl2 (by decide)) ?_
  simp only [tl]
  walk_at "wt"
  exact k
theorem mh_weigh {f t : D} (pt : Plain (.tup [.str "weigh", f, t])) (ht : ∃ y, t = .tup y) (k : P (.ref h.length) (h ++ [.lst [t]])) : ((tb.fns (n + 1)).call 24 [.tup [.str "weigh", f, t]] h).W P X := by
  refine mh_test pt ?_
  simp only [tl]
  walk_at "wt"
  refine tups (fun x hx => ?_) (by simp) k
  rw [List.mem_singleton.mp hx]; exact ht
theorem mh_read {a p : D} (pt : Plain (.tup [.str "read", a, p])) (ha : ∃ y, a = .tup y) (hp : ∃ y, p = .tup y) (k : P (.ref h.length) (h ++ [.lst [a, p]])) : ((tb.fns (n + 1)).call 24 [.tup [.str "read", a, p]] h).W P X := by
  refine mh_test pt ?_
  simp only [tl]
  walk_at "wt"
  refine tups (fun x hx => ?_) (by simp) k
  simp only [List.mem_cons, List.not_mem_nil, or_false] at hx
  rcases hx with rfl | rfl
  · exact ha
  · exact hp
theorem mh_same {a p : D} (pt : Plain (.tup [.str "same", a, p])) (ha : ∃ y, a = .tup y) (hp : ∃ y, p = .tup y) (k : P (.ref h.length) (h ++ [.lst [a, p]])) : ((tb.fns (n + 1)).call 24 [.tup [.str "same", a, p]] h).W P X := by
  refine mh_test pt ?_
  simp only [tl]
  walk_at "wt"
  refine tups (fun x hx => ?_) (by simp) k
  simp only [List.mem_cons, List.not_mem_nil, or_false] at hx
  rcases hx with rfl | rfl
  · exact ha
  · exact hp
theorem mh_put {a p v : D} (pt : Plain (.tup [.str "put", a, p, v])) (ha : ∃ y, a = .tup y) (hp : ∃ y, p = .tup y) (hv : ∃ y, v = .tup y) (k : P (.ref h.length) (h ++ [.lst [a, p, v]])) : ((tb.fns (n + 1)).call 24 [.tup [.str "put", a, p, v]] h).W P X := by
  refine mh_test pt ?_
  simp only [tl]
  walk_at "wt"
  refine tups (fun x hx => ?_) (by simp) k
  simp only [List.mem_cons, List.not_mem_nil, or_false] at hx
  rcases hx with rfl | rfl | rfl
  · exact ha
  · exact hp
  · exact hv
theorem mh_plus {s t : D} (pt : Plain (.tup [.str "plus", .tup [s, t]])) (pi : Plain (.tup [.tup [s, t]])) (ha : ∃ y, s = .tup y) (hp : ∃ y, t = .tup y) (k : P (.ref h.length) (h ++ [.lst [s, t]])) : ((tb.fns (n + 1)).call 24 [.tup [.str "plus", .tup [s, t]]] h).W P X := by
  refine mh_test pt ?_
  simp only [tl]
  walk_at "wt"
  rw [c_neP pi plE]
  simp only [D.tup.injEq, reduceCtorEq, decide_false, Bool.not_false, byT_bl, if_true]
  walk_at "wt"
  refine tups (fun x hx => ?_) (by simp) k
  simp only [List.mem_cons, List.not_mem_nil, or_false] at hx
  rcases hx with rfl | rfl
  · exact ha
  · exact hp
theorem mh_call {t : D} (pt : Plain (.tup [.str "call", .str "f", .tup [t]])) (pi : Plain (.tup [.tup [t]])) (ht : ∃ y, t = .tup y) (k : P (.ref h.length) (h ++ [.lst [t]])) : ((tb.fns (n + 1)).call 24 [.tup [.str "call", .str "f", .tup [t]]] h).W P X := by
  refine mh_test pt ?_
  simp only [tl]
  walk_at "wt"
  rw [c_neP pi plE]
  simp only [D.tup.injEq, reduceCtorEq, decide_false, Bool.not_false, byT_bl, if_true]
  walk_at "wt"
  refine tups (fun x hx => ?_) (by simp) k
  rw [List.mem_singleton.mp hx]; exact ht
/-- a thing of the r-th layer -/
def Lay (K r : Nat) (d : D) : Prop := (∃ b j, Tm b j d ∧ j + r ≤ K) ∨ (r = 0 ∧ 0 < K ∧ ∃ p q, d = .tup [.str "same", p, q] ∧ (∃ j, Tm true j p ∧ j + 1 ≤ K) ∧ ∃ j, Tm true j q ∧ j + 1 ≤ K)
theorem sub_pl {m : Nat} {ds es : List D} (h : plB (m + 1) (.tup es) = true) (hs : ∀ d ∈ ds, d ∈ es) (hl : ds.length ≤ 4096) : plB (m + 1) (.tup ds) = true := by
  rw [pl_tup] at h ⊢
  exact ⟨fun d hd => h.1 d (hs d hd), hl⟩
theorem mh {K r : Nat} {d : D} (hK : K ≤ 20) (hd : Lay K r d) (k : ∀ xs, xs.length ≤ 3 → (∀ x ∈ xs, Lay K (r + 1) x) → P (.ref h.length) (h ++ [.lst xs])) : ((tb.fns (n + 1)).call 24 [d] h).W P X := by
  rcases hd with ⟨b, j, ht, hj⟩ | ⟨h0, hK0, p, q, rfl, ⟨j, hp, hj⟩, i, hq, hi⟩
  · have pt : Plain d := ht.pl2 (by omega)
    cases ht with
    | unk hx => exact mh_unk hx (k [] (by simp) (by simp))
    | num hf => exact mh_num hf (k [] (by simp) (by simp))
    | weigh hf h1 =>
      refine mh_weigh pt h1.tup (k _ (by simp) fun x hx => ?_)
      rw [List.mem_singleton.mp hx]; exact .inl ⟨_, _, h1, by omega⟩
    | @call j t h1 =>
      have pi : plB (2 * j + 4) (.tup [.tup [t]]) = true := sub_pl (Tm.pl (.call h1)) (by simp) (by simp)
      refine mh_call pt (pl_of pi (by omega)) h1.tup (k _ (by simp) fun x hx => ?_)
      rw [List.mem_singleton.mp hx]; exact .inl ⟨_, _, h1, by omega⟩
    | read h1 h2 =>
      refine mh_read pt h1.tup h2.tup (k _ (by simp) fun x hx => ?_)
      simp only [List.mem_cons, List.not_mem_nil, or_false] at hx
      rcases hx with rfl | rfl
      · exact .inl ⟨_, _, h1, by omega⟩
      · exact .inl ⟨_, _, h2, by omega⟩
    | @plus j s t h1 h2 =>
      have pi : plB (2 * j + 4) (.tup [.tup [s, t]]) = true := sub_pl (Tm.pl (.plus h1 h2)) (by simp) (by simp)
      refine mh_plus pt (pl_of pi (by omega)) h1.tup h2.tup (k _ (by simp) fun x hx => ?_)
      simp only [List.mem_cons, List.not_mem_nil, or_false] at hx
      rcases hx with rfl | rfl
      · exact .inl ⟨_, _, h1, by omega⟩
      · exact .inl ⟨_, _, h2, by omega⟩
    | put h1 h2 h3 =>
      refine mh_put pt h1.tup h2.tup h3.tup (k _ (by simp) fun x hx => ?_)
      simp only [List.mem_cons, List.not_mem_nil, or_false] at hx
      rcases hx with rfl | rfl | rfl
      · exact .inl ⟨_, _, h1, by omega⟩
      · exact .inl ⟨_, _, h2, by omega⟩
      · exact .inl ⟨_, _, h3, by omega⟩
  · subst h0
    have pt : Plain (.tup [.str "same", p, q]) := by
      refine pl_of (n := 50) ?_
      rw [pl_tup]
      refine ⟨fun d hd => ?_, by simp⟩
      simp only [List.mem_cons, List.not_mem_nil, or_false] at hd
      rcases hd with rfl | rfl | rfl
      · exact sok _ (by decide +kernel) _
      · exact plB_mono hp.pl (by omega)
      · exact plB_mono hq.pl (by omega)
    refine mh_same pt hp.tup hq.tup (k _ (by simp) fun x hx => ?_)
    simp only [List.mem_cons, List.not_mem_nil, or_false] at hx
    rcases hx with rfl | rfl
    · exact .inl ⟨_, _, hp, by omega⟩
    · exact .inl ⟨_, _, hq, by omega⟩
theorem ext_W {l m : Nat} {xs ys : List D} (e : h[l]? = some (.lst xs)) (e2 : h[m]? = some (.lst ys)) : (metL .extend l [.ref m] h).W P X = (xs.length + ys.length ≤ mx ∧ P .non (h.set l (.lst (xs ++ ys)))) := by
  show (match h[l]?, h[m]? with
    | some (.lst ds), some (.lst es) => if ds.length + es.length ≤ mx then Res.ok D.non (h.set l (.lst (ds ++ es))) else .stk
    | _, _ => .stk).W P X = _
  rw [e, e2]
  show (if xs.length + ys.length ≤ mx then Res.ok D.non (h.set l (.lst (xs ++ ys))) else .stk).W P X = _
  split <;> simp [*, W_ok, W_stk]
theorem Lay.pl {K r : Nat} {d : D} (hK : K ≤ 20) (hd : Lay K r d) : plB 50 d = true := by
  rcases hd with ⟨b, j, ht, hj⟩ | ⟨h0, hK0, p, q, rfl, ⟨j, hp, hj⟩, i, hq, hi⟩
  · exact plB_mono ht.pl (by omega)
  · rw [pl_tup]
    refine ⟨fun d hd => ?_, by simp⟩
    simp only [List.mem_cons, List.not_mem_nil, or_false] at hd
    rcases hd with rfl | rfl | rfl
    · exact sok _ (by decide +kernel) _
    · exact plB_mono hp.pl (by omega)
    · exact plB_mono hq.pl (by omega)
theorem not_deep {K : Nat} {d : D} (hK : K ≤ 11) (hd : Lay K 0 d) (k : ∀ h', Pre h h' → P (.bl false) h') : ((tb.fns (n + 2)).call 25 [d] h).W P X := by
  rw [run25]
  walk_at "wt"
  rw [rngW_ok (by decide) (by decide) (by decide) (by decide)]
  refine forR_W (fun r ρ h' => ∃ l xs z1 z2 z3, ρ = [some d, some (.ref l), z1, z2, z3] ∧ Pre h h' ∧ h'[l]? = some (.lst xs) ∧ (∀ x ∈ xs, Lay K r x) ∧ xs.length ≤ 3 ^ r) 0 12 ?_ ⟨_, [d], none, none, none, rfl, Pre.refl.app _, get_new, ?_, by simp⟩ ?_
  · intro r ρ h1 hr ⟨l, xs, z1, z2, z3, e, p1, p2, p3, p4⟩
    subst e
    rw [turn_W]
    walk_at "wt"
    have p5 : (h1 ++ [O.lst []])[l]? = some (.lst xs) := (Pre.refl.app _).get p2
    rw [seqW_of (seq_ref p5)]
    have hlt := (List.getElem?_eq_some_iff.mp p2).1
    refine forI_W (fun j ρ h' => ∃ ys z3, ρ = [some d, some (.ref l), some (.int (0 + (r : Int))), some (.ref h1.length), z3] ∧ Pre h1 h' ∧ h'[h1.length]? = some (.lst ys) ∧ (∀ y ∈ ys, Lay K (r + 1) y) ∧ ys.length ≤ 3 * j) xs ?_ ⟨[], z3, rfl, Pre.refl.app _, get_new, by simp, by simp⟩ ?_
    · intro j x ρ h2 hx ⟨ys, z3, e, q1, q2, q3, q4⟩
      subst e
      have hj := (List.getElem?_eq_some_iff.mp hx).1
      have r12 : 3 ^ r ≤ 3 ^ 12 := Nat.pow_le_pow_right (by decide) (by omega)
      rw [turn_W]
      walk_at "wt"
      rw [m_ext q2]
      walk_at "wt"
      refine mh (by omega) (p3 x (List.mem_of_getElem? hx)) fun zs hz1 hz2 => ?_
      have q5 : (h2 ++ [O.lst zs])[h1.length]? = some (.lst ys) := (Pre.refl.app _).get q2
      rw [ext_W q5 get_new]
      refine ⟨by simp [mx]; omega, kept_one ?_, _, _, rfl, (q1.app _).set (Nat.le_refl _) _, get_set q5, ?_, ?_⟩
      · rw [p5]
        have hne : h1.length ≠ l := by omega
        rw [List.getElem?_set_ne hne]
        exact ((q1.app _).get p2).symm
      · intro y hy
        rcases List.mem_append.mp hy with hy | hy
        · exact q3 y hy
        · exact hz2 y hy
      · rw [List.length_append]; omega
    · intro ρ h2 ⟨ys, z3, e, q1, q2, q3, q4⟩
      subst e
      walk_at "wt"
      refine ⟨kept_nil, _, ys, _, _, _, rfl, p1.trans q1, q2, q3, ?_⟩
      rw [Nat.pow_succ]; omega
  · intro x hx
    rw [List.mem_singleton.mp hx]; exact hd
  · intro ρ h1 ⟨l, xs, z1, z2, z3, e, p1, p2, p3, p4⟩
    subst e
    have : xs = [] := by
      cases xs with
      | nil => rfl
      | cons x xs =>
        rcases p3 x List.mem_cons_self with ⟨b, j, _, hj⟩ | ⟨hz, _⟩
        · omega
        · cases hz
    subst this
    walk_at "wt"
    have p5 : (h1 ++ [O.lst []])[l]? = some (.lst []) := (Pre.refl.app _).get p2
    rw [c_ne (eqD_lst p5 get_new (n := 1) (by simp) (by simp))]
    exact k _ (p1.app _)
end
end Q41

set_option Elab.async false
set_option linter.all false
set_option maxRecDepth 100000
set_option maxHeartbeats 1000000
/-! Q41p6: the questions of the law. -/
namespace Q41
open Mp Mp.Wp
open PySem (Str)
local macro_rules | `(tactic| walk_at "wp") => `(tactic| try simp -implicitDefEqProofs only [W_fin, s_nil, s_cons, s_pass, s_retN, s_asgn, s_asg, s_ex, s_ret, s_ife, s_aug, s_for, s_par, s_sfd, s_thru, e_cst, e_var, e_bin, e_neg, e_cmp, e_chain, chain_bl, e_and, e_or, e_not, e_ite, e_tup, e_lst, e_dct0, e_ix, e_sl, o_no, o_yes, es_nil, es_cons, e_call, e_bfn, e_met, e_callv, e_rev, e_cdct, e_fld, e_umt, e_mk, i_seq, i_enum, i_zip, i_rng1, i_rng2, t_name, t_tup, t_sub, ts_nil, ts_cons, c_nil, c_one, e_lc, byT_bl, b_add, b_sub, c_lt, c_le, c_gt, c_ge, c_eqI, c_neI, x_tup, x_scr, item_0, item_1, item_2, item_3, item_4, f_lenT, sl_tup, List.getElem?_cons_zero, List.getElem?_cons_succ, List.set_cons_zero, List.set_cons_succ, List.nil_append, List.append_nil, List.cons_append, List.length_nil, List.length_cons])
local macro_rules | `(tactic| walk_at "wq") => `(tactic| try simp -implicitDefEqProofs only [W_fin, s_nil, s_cons, s_pass, s_retN, s_asgn, s_asg, s_ex, s_ret, s_ife, s_aug, s_for, s_par, s_sfd, s_thru, e_cst, e_var, e_bin, e_neg, e_cmp, e_chain, chain_bl, e_and, e_or, e_not, e_ite, e_tup, e_lst, e_dct0, e_ix, e_sl, o_no, o_yes, es_nil, es_cons, e_call, e_bfn, e_met, e_callv, e_rev, e_cdct, e_fld, e_umt, e_mk, i_seq, i_enum, i_zip, i_rng1, i_rng2, t_name, t_tup, t_sub, ts_nil, ts_cons, c_nil, c_one, e_lc, byT_bl, b_add, b_sub, c_lt, c_le, c_gt, c_ge, c_eqI, c_neI, x_tup, x_scr, item_0, item_1, item_2, item_3, item_4, f_lenT, sl_tup, List.getElem?_cons_zero, List.getElem?_cons_succ, List.set_cons_zero, List.set_cons_succ, List.nil_append, List.append_nil, List.cons_append, List.length_nil, List.length_cons, mx, Nat.reduceAdd, Nat.reduceLeDiff, Nat.zero_le, true_and])
local macro_rules | `(tactic| walk_at "wz") => `(tactic| try simp -implicitDefEqProofs only [W_fin, s_nil, s_cons, s_pass, s_retN, s_asgn, s_asg, s_ex, s_ret, s_ife, s_aug, s_for, s_par, s_sfd, s_thru, e_cst, e_var, e_bin, e_neg, e_cmp, e_chain, chain_bl, e_and, e_or, e_not, e_ite, e_tup, e_lst, e_dct0, e_ix, e_sl, o_no, o_yes, es_nil, es_cons, e_call, e_bfn, e_met, e_callv, e_rev, e_cdct, e_fld, e_umt, e_mk, i_seq, i_enum, i_zip, i_rng1, i_rng2, t_name, t_tup, t_sub, ts_nil, ts_cons, c_nil, c_one, e_lc, byT_bl, b_add, b_sub, c_lt, c_le, c_gt, c_ge, c_eqI, c_neI, x_tup, x_scr, item_0, item_1, item_2, item_3, item_4, f_lenT, sl_tup, List.getElem?_cons_zero, List.getElem?_cons_succ, List.set_cons_zero, List.set_cons_succ, List.nil_append, List.append_nil, List.cons_append, List.length_nil, List.length_cons, mx, Nat.reduceAdd, Nat.reduceLeDiff, Nat.zero_le, true_and, f_isiT, f_isiS, if_true, if_false, ite_true, ite_false, ↓reduceIte, decide_true, decide_false, Bool.false_eq_true, Bool.not_true, Bool.not_false, c_isN, c_notN, eq_self, reduceCtorEq, Bool.and_true, Bool.true_and])
local macro_rules | `(tactic| walk_at "ws") => `(tactic| try simp -implicitDefEqProofs only [W_fin, s_nil, s_cons, s_pass, s_retN, s_asgn, s_asg, s_ex, s_ret, s_ife, s_aug, s_for, s_par, s_sfd, s_thru, e_cst, e_var, e_bin, e_neg, e_cmp, e_chain, chain_bl, e_and, e_or, e_not, e_ite, e_tup, e_lst, e_dct0, e_ix, e_sl, o_no, o_yes, es_nil, es_cons, e_call, e_bfn, e_met, e_callv, e_rev, e_cdct, e_fld, e_umt, e_mk, i_seq, i_enum, i_zip, i_rng1, i_rng2, t_name, t_tup, t_sub, ts_nil, ts_cons, c_nil, c_one, e_lc, byT_bl, b_add, b_sub, c_lt, c_le, c_gt, c_ge, c_eqI, c_neI, x_tup, x_scr, item_0, item_1, item_2, item_3, item_4, f_lenT, sl_tup, List.getElem?_cons_zero, List.getElem?_cons_succ, List.set_cons_zero, List.set_cons_succ, List.nil_append, List.append_nil, List.cons_append, List.length_nil, List.length_cons, mx, Nat.reduceAdd, Nat.reduceLeDiff, Nat.zero_le, true_and, f_isiT, f_isiS, if_true, if_false, ite_true, ite_false, ↓reduceIte, decide_true, decide_false, Bool.false_eq_true, Bool.not_true, Bool.not_false, c_isN, c_notN, eq_self, reduceCtorEq, Bool.and_true, Bool.true_and, q_unknown_unknown, q_unknown_call, q_unknown_put, q_unknown_read, q_unknown_plus, q_unknown_weigh, q_unknown_same, q_call_unknown, q_call_call, q_call_put, q_call_read, q_call_plus, q_call_weigh, q_call_same, q_put_unknown, q_put_call, q_put_put, q_put_read, q_put_plus, q_put_weigh, q_put_same, q_read_unknown, q_read_call, q_read_put, q_read_read, q_read_plus, q_read_weigh, q_read_same, q_plus_unknown, q_plus_call, q_plus_put, q_plus_read, q_plus_plus, q_plus_weigh, q_plus_same, q_weigh_unknown, q_weigh_call, q_weigh_put, q_weigh_read, q_weigh_plus, q_weigh_weigh, q_weigh_same, q_number_unknown, q_number_call, q_number_put, q_number_read, q_number_plus, q_number_weigh, q_number_same, q_same_unknown, q_same_call, q_same_put, q_same_read, q_same_plus, q_same_weigh, q_same_same, q_and_unknown, q_and_call, q_and_put, q_and_read, q_and_plus, q_and_weigh, q_and_same, q_or_unknown, q_or_call, q_or_put, q_or_read, q_or_plus, q_or_weigh, q_or_same])
local macro_rules | `(tactic| walk_at "wt") => `(tactic| try simp -implicitDefEqProofs only [W_fin, s_nil, s_cons, s_pass, s_retN, s_asgn, s_asg, s_ex, s_ret, s_ife, s_aug, s_for, s_par, s_sfd, s_thru, e_cst, e_var, e_bin, e_neg, e_cmp, e_chain, chain_bl, e_and, e_or, e_not, e_ite, e_tup, e_lst, e_dct0, e_ix, e_sl, o_no, o_yes, es_nil, es_cons, e_call, e_bfn, e_met, e_callv, e_rev, e_cdct, e_fld, e_umt, e_mk, i_seq, i_enum, i_zip, i_rng1, i_rng2, t_name, t_tup, t_sub, ts_nil, ts_cons, c_nil, c_one, byT_bl, b_add, b_sub, c_lt, c_le, c_gt, c_ge, c_eqI, c_neI, x_tup, x_scr, item_0, item_1, item_2, item_3, item_4, f_lenT, sl_tup, List.getElem?_cons_zero, List.getElem?_cons_succ, List.set_cons_zero, List.set_cons_succ, List.nil_append, List.append_nil, List.cons_append, List.length_nil, List.length_cons, mx, Nat.reduceAdd, Nat.reduceLeDiff, Nat.zero_le, true_and, f_isiT, f_isiS, if_true, if_false, ite_true, ite_false, ↓reduceIte, decide_true, decide_false, Bool.false_eq_true, Bool.not_true, Bool.not_false, c_isN, c_notN, eq_self, reduceCtorEq, Bool.and_true, Bool.true_and, i_number_nu, i_number_wc, i_number_pc, i_number_at, i_unknown_nu, i_unknown_wc, i_unknown_pc, i_unknown_at, i_weigh_nu, i_weigh_wc, i_weigh_pc, i_weigh_at, i_call_nu, i_call_wc, i_call_pc, i_call_at, i_read_nu, i_read_wc, i_read_pc, i_read_at, i_plus_nu, i_plus_wc, i_plus_pc, i_plus_at, i_put_nu, i_put_wc, i_put_pc, i_put_at, i_same_nu, i_same_wc, i_same_pc, i_same_at, cut_a, cut_b, cut_c, cut_d])

section
variable {P : D → PH → Prop} {X : Nat → PH → Prop} {h h0 : PH} {lx n : Nat}
theorem kind_of {b : Bool} {t : D} {l : Nat} (ht : Tm b 8 t) (na : NamesAt h l) (k : ∀ h', Pre h h' → P (.str (kn b)) h') : ((tb.fns (n + 29)).call 29 [.ref l, t] h).W P X := by
  rw [run29]
  walk_at "wz"
  refine not_deep (n := n + 26) (K := 8) (by decide) (.inl ⟨_, _, ht, by decide⟩) fun h1 p1 => ?_
  walk_at "wz"
  exact kw ht (by decide) n (na.mono p1) fun h2 p2 => k _ (p1.trans p2)
theorem atom {p q : D} {l : Nat} (hp : Tm true 8 p) (hq : Tm true 8 q) (na : NamesAt h l) (k : ∀ h', Pre h h' → P .non h') : ((tb.fns (n + 29)).call 31 [.ref l, .tup [.str "same", p, q]] h).W P X := by
  rw [run31]
  walk_at "wz"
  refine kw hp (by decide) n na fun h1 p1 => ?_
  walk_at "wz"
  refine kw hq (by decide) n (na.mono p1) fun h2 p2 => ?_
  walk_at "wz"
  rw [c_ne (eqD_lst ((Pre.refl.app _).get get_new) get_new (n := 1) (by decide +kernel) (by decide +kernel))]
  simp only [kn, decide_true, Bool.not_true, byT_bl, Bool.false_eq_true, if_false]
  exact k _ (((p1.trans p2).app _).app _)
theorem same_pl {p q : D} (hp : Tm true 8 p) (hq : Tm true 8 q) : plB 50 (.tup [.str "same", p, q]) = true := by
  rw [pl_tup]
  refine ⟨fun d hd => ?_, by simp⟩
  simp only [List.mem_cons, List.not_mem_nil, or_false] at hd
  rcases hd with rfl | rfl | rfl
  · exact sok _ (by decide +kernel) _
  · exact plB_mono hp.pl (by omega)
  · exact plB_mono hq.pl (by omega)
theorem within {p q : D} {l : Nat} (hp : Tm true 8 p) (hq : Tm true 8 q) (na : NamesAt h l) (k : ∀ h', Pre h h' → P .non h') : ((tb.fns (n + 30)).call 33 [.ref l, .tup [.str "same", p, q]] h).W P X := by
  have pt : Plain (.tup [.str "same", p, q]) := pl_of (same_pl hp hq)
  rw [run33]
  walk_at "wz"
  simp only [c_eqP pt plE, byT_bl, D.tup.injEq, reduceCtorEq, decide_false, Bool.false_eq_true, if_false]
  walk_at "wt"
  refine atom hp hq na fun h1 p1 => ?_
  walk_at "wt"
  exact k _ p1
theorem statement {p q : D} {l : Nat} (hp : Tm true 8 p) (hq : Tm true 8 q) (na : NamesAt h l) (k : ∀ h', Pre h h' → P .non h') : ((tb.fns (n + 31)).call 32 [.ref l, .tup [.str "same", p, q]] h).W P X := by
  rw [run32]
  walk_at "wz"
  refine not_deep (n := n + 28) (K := 9) (by decide) (.inr ⟨rfl, by decide, p, q, rfl, ⟨_, hp, by decide⟩, _, hq, by decide⟩) fun h1 p1 => ?_
  walk_at "wz"
  refine within hp hq (na.mono p1) fun h2 p2 => ?_
  walk_at "wz"
  exact k _ (p1.trans p2)
theorem irp {w : Str} {r : List D} (hw : PySem.PyData.strOk w = true) (hr : w = "read" → ∃ u s p, r = [.tup (.str u :: s), p] ∧ PySem.PyData.strOk u = true) :
    ∃ b, (∀ u s p, w = "read" → r = [.tup (.str u :: s), p] → b = decide (u = "put")) ∧ (∀ {n h} {P : D → PH → Prop} {X : Nat → PH → Prop}, ((tb.fns (n + 1)).call 1 [.tup (.str w :: r)] h).W P X = P (.bl b) h) ∧
      ∀ {F : Fns} {h : PH} {P : D → PH → Prop} {X : Nat → PH → Prop} {a b' c' d e f}, (evE F (.and (.cmp .eq (.ix (.var 6) (.cst (.int 0))) (.cst (.str "read"))) (.cmp .eq (.ix (.ix (.var 6) (.cst (.int 1))) (.cst (.int 0))) (.cst (.str "put")))) [a, b', c', d, e, f, some (.tup (.str w :: r))] h).W P X = P (.bl b) h := by
  have p1 := pw w hw
  have p2 := pw "read"
  have p3 := pw "put"
  by_cases c : w = "read"
  · subst c
    obtain ⟨u, s, p, rfl, hu⟩ := hr rfl
    have p4 := pw u hu
    refine ⟨decide (u = "put"), ?_, ?_, ?_⟩
    · intro u' s' p' _ e
      simp only [List.cons.injEq, D.tup.injEq, D.str.injEq] at e
      rw [e.1.1]
    · intro n h P X
      rw [run1]
      walk_at "ws"
      rw [c_eqP p4 p3]
      simp
    · intro F h P X a b' c' d e f
      walk_at "ws"
      rw [c_eqP p4 p3]
      simp
  · refine ⟨false, fun _ _ _ q => absurd q c, ?_, ?_⟩
    · intro n h P X
      rw [run1]
      walk_at "wz"
      rw [c_eqP p1 p2]
      simp [byT_bl, c]
    · intro F h P X a b' c' d e f
      walk_at "wz"
      rw [c_eqP p1 p2]
      simp [byT_bl, c]
end
end Q41

set_option Elab.async false
set_option linter.all false
set_option maxRecDepth 100000
set_option maxHeartbeats 1000000
/-! Q41p: the law. -/
namespace Q41
open Mp Mp.Wp
open PySem (Str)
local macro_rules | `(tactic| walk_at "wp") => `(tactic| try simp -implicitDefEqProofs only [W_fin, s_nil, s_cons, s_pass, s_retN, s_asgn, s_asg, s_ex, s_ret, s_ife, s_aug, s_for, s_par, s_sfd, s_thru, e_cst, e_var, e_bin, e_neg, e_cmp, e_chain, chain_bl, e_and, e_or, e_not, e_ite, e_tup, e_lst, e_dct0, e_ix, e_sl, o_no, o_yes, es_nil, es_cons, e_call, e_bfn, e_met, e_callv, e_rev, e_cdct, e_fld, e_umt, e_mk, i_seq, i_enum, i_zip, i_rng1, i_rng2, t_name, t_tup, t_sub, ts_nil, ts_cons, c_nil, c_one, e_lc, byT_bl, b_add, b_sub, c_lt, c_le, c_gt, c_ge, c_eqI, c_neI, x_tup, x_scr, item_0, item_1, item_2, item_3, item_4, f_lenT, sl_tup, List.getElem?_cons_zero, List.getElem?_cons_succ, List.set_cons_zero, List.set_cons_succ, List.nil_append, List.append_nil, List.cons_append, List.length_nil, List.length_cons])
local macro_rules | `(tactic| walk_at "wq") => `(tactic| try simp -implicitDefEqProofs only [W_fin, s_nil, s_cons, s_pass, s_retN, s_asgn, s_asg, s_ex, s_ret, s_ife, s_aug, s_for, s_par, s_sfd, s_thru, e_cst, e_var, e_bin, e_neg, e_cmp, e_chain, chain_bl, e_and, e_or, e_not, e_ite, e_tup, e_lst, e_dct0, e_ix, e_sl, o_no, o_yes, es_nil, es_cons, e_call, e_bfn, e_met, e_callv, e_rev, e_cdct, e_fld, e_umt, e_mk, i_seq, i_enum, i_zip, i_rng1, i_rng2, t_name, t_tup, t_sub, ts_nil, ts_cons, c_nil, c_one, e_lc, byT_bl, b_add, b_sub, c_lt, c_le, c_gt, c_ge, c_eqI, c_neI, x_tup, x_scr, item_0, item_1, item_2, item_3, item_4, f_lenT, sl_tup, List.getElem?_cons_zero, List.getElem?_cons_succ, List.set_cons_zero, List.set_cons_succ, List.nil_append, List.append_nil, List.cons_append, List.length_nil, List.length_cons, mx, Nat.reduceAdd, Nat.reduceLeDiff, Nat.zero_le, true_and])
local macro_rules | `(tactic| walk_at "wz") => `(tactic| try simp -implicitDefEqProofs only [W_fin, s_nil, s_cons, s_pass, s_retN, s_asgn, s_asg, s_ex, s_ret, s_ife, s_aug, s_for, s_par, s_sfd, s_thru, e_cst, e_var, e_bin, e_neg, e_cmp, e_chain, chain_bl, e_and, e_or, e_not, e_ite, e_tup, e_lst, e_dct0, e_ix, e_sl, o_no, o_yes, es_nil, es_cons, e_call, e_bfn, e_met, e_callv, e_rev, e_cdct, e_fld, e_umt, e_mk, i_seq, i_enum, i_zip, i_rng1, i_rng2, t_name, t_tup, t_sub, ts_nil, ts_cons, c_nil, c_one, e_lc, byT_bl, b_add, b_sub, c_lt, c_le, c_gt, c_ge, c_eqI, c_neI, x_tup, x_scr, item_0, item_1, item_2, item_3, item_4, f_lenT, sl_tup, List.getElem?_cons_zero, List.getElem?_cons_succ, List.set_cons_zero, List.set_cons_succ, List.nil_append, List.append_nil, List.cons_append, List.length_nil, List.length_cons, mx, Nat.reduceAdd, Nat.reduceLeDiff, Nat.zero_le, true_and, f_isiT, f_isiS, if_true, if_false, ite_true, ite_false, ↓reduceIte, decide_true, decide_false, Bool.false_eq_true, Bool.not_true, Bool.not_false, c_isN, c_notN, eq_self, reduceCtorEq, Bool.and_true, Bool.true_and])
local macro_rules | `(tactic| walk_at "ws") => `(tactic| try simp -implicitDefEqProofs only [W_fin, s_nil, s_cons, s_pass, s_retN, s_asgn, s_asg, s_ex, s_ret, s_ife, s_aug, s_for, s_par, s_sfd, s_thru, e_cst, e_var, e_bin, e_neg, e_cmp, e_chain, chain_bl, e_and, e_or, e_not, e_ite, e_tup, e_lst, e_dct0, e_ix, e_sl, o_no, o_yes, es_nil, es_cons, e_call, e_bfn, e_met, e_callv, e_rev, e_cdct, e_fld, e_umt, e_mk, i_seq, i_enum, i_zip, i_rng1, i_rng2, t_name, t_tup, t_sub, ts_nil, ts_cons, c_nil, c_one, e_lc, byT_bl, b_add, b_sub, c_lt, c_le, c_gt, c_ge, c_eqI, c_neI, x_tup, x_scr, item_0, item_1, item_2, item_3, item_4, f_lenT, sl_tup, List.getElem?_cons_zero, List.getElem?_cons_succ, List.set_cons_zero, List.set_cons_succ, List.nil_append, List.append_nil, List.cons_append, List.length_nil, List.length_cons, mx, Nat.reduceAdd, Nat.reduceLeDiff, Nat.zero_le, true_and, f_isiT, f_isiS, if_true, if_false, ite_true, ite_false, ↓reduceIte, decide_true, decide_false, Bool.false_eq_true, Bool.not_true, Bool.not_false, c_isN, c_notN, eq_self, reduceCtorEq, Bool.and_true, Bool.true_and, q_unknown_unknown, q_unknown_call, q_unknown_put, q_unknown_read, q_unknown_plus, q_unknown_weigh, q_unknown_same, q_call_unknown, q_call_call, q_call_put, q_call_read, q_call_plus, q_call_weigh, q_call_same, q_put_unknown, q_put_call, q_put_put, q_put_read, q_put_plus, q_put_weigh, q_put_same, q_read_unknown, q_read_call, q_read_put, q_read_read, q_read_plus, q_read_weigh, q_read_same, q_plus_unknown, q_plus_call, q_plus_put, q_plus_read, q_plus_plus, q_plus_weigh, q_plus_same, q_weigh_unknown, q_weigh_call, q_weigh_put, q_weigh_read, q_weigh_plus, q_weigh_weigh, q_weigh_same, q_number_unknown, q_number_call, q_number_put, q_number_read, q_number_plus, q_number_weigh, q_number_same, q_same_unknown, q_same_call, q_same_put, q_same_read, q_same_plus, q_same_weigh, q_same_same, q_and_unknown, q_and_call, q_and_put, q_and_read, q_and_plus, q_and_weigh, q_and_same, q_or_unknown, q_or_call, q_or_put, q_or_read, q_or_plus, q_or_weigh, q_or_same])
local macro_rules | `(tactic| walk_at "wt") => `(tactic| try simp -implicitDefEqProofs only [W_fin, s_nil, s_cons, s_pass, s_retN, s_asgn, s_asg, s_ex, s_ret, s_ife, s_aug, s_for, s_par, s_sfd, s_thru, e_cst, e_var, e_bin, e_neg, e_cmp, e_chain, chain_bl, e_and, e_or, e_not, e_ite, e_tup, e_lst, e_dct0, e_ix, e_sl, o_no, o_yes, es_nil, es_cons, e_call, e_bfn, e_met, e_callv, e_rev, e_cdct, e_fld, e_umt, e_mk, i_seq, i_enum, i_zip, i_rng1, i_rng2, t_name, t_tup, t_sub, ts_nil, ts_cons, c_nil, c_one, byT_bl, b_add, b_sub, c_lt, c_le, c_gt, c_ge, c_eqI, c_neI, x_tup, x_scr, item_0, item_1, item_2, item_3, item_4, f_lenT, sl_tup, List.getElem?_cons_zero, List.getElem?_cons_succ, List.set_cons_zero, List.set_cons_succ, List.nil_append, List.append_nil, List.cons_append, List.length_nil, List.length_cons, mx, Nat.reduceAdd, Nat.reduceLeDiff, Nat.zero_le, true_and, f_isiT, f_isiS, if_true, if_false, ite_true, ite_false, ↓reduceIte, decide_true, decide_false, Bool.false_eq_true, Bool.not_true, Bool.not_false, c_isN, c_notN, eq_self, reduceCtorEq, Bool.and_true, Bool.true_and, i_number_nu, i_number_wc, i_number_pc, i_number_at, i_unknown_nu, i_unknown_wc, i_unknown_pc, i_unknown_at, i_weigh_nu, i_weigh_wc, i_weigh_pc, i_weigh_at, i_call_nu, i_call_wc, i_call_pc, i_call_at, i_read_nu, i_read_wc, i_read_pc, i_read_at, i_plus_nu, i_plus_wc, i_plus_pc, i_plus_at, i_put_nu, i_put_wc, i_put_pc, i_put_at, i_same_nu, i_same_wc, i_same_pc, i_same_at, cut_a, cut_b, cut_c, cut_d])

section
variable {P : D → PH → Prop} {X : Nat → PH → Prop} {h h0 : PH} {lx n : Nat} {a p v q : D}
theorem hit_W : ((tb.fns (n + 1)).call 2 [.tup [.str "read", .tup [.str "put", a, p, v], q]] h).W P X = P v h := by
  rw [run2]
  walk_at "wz"
theorem miss_W : ((tb.fns (n + 1)).call 3 [.tup [.str "read", .tup [.str "put", a, p, v], q]] h).W P X = P (.tup [.str "read", a, q]) h := by
  rw [run3]
  walk_at "wz"
theorem need_W : ((tb.fns (n + 1)).call 4 [.tup [.str "read", .tup [.str "put", a, p, v], q]] h).W P X = P (.tup [.str "same", q, p]) h := by
  rw [run4]
  walk_at "wz"
theorem c_notB {b c : Bool} {y : D} : (cmpop (.notB c) (.bl b) y h).W P X = P (.bl (!(b == c))) h := rfl
theorem num_eq {Q : D → PH → Prop} : (cmpop .ne (.str (kn true)) (.str "num") h).W Q X = Q (.bl false) h := by
  rw [c_neP (kn_pl true) (pw "num"), show decide (D.str (kn true) = D.str "num") = true by decide +kernel]; rfl
theorem law_is {l : Nat} (ha : Tm false 7 a) (hp : Tm true 3 p) (hv : Tm true 3 v) (hq : Tm true 3 q) (na : NamesAt h l) (k : ∀ h', Pre h h' → P (.bl true) h') :
    ((tb.fns (n + 32)).call 41 [.ref l, .tup [.str "read", .tup [.str "put", a, p, v], q]] h).W P X := by
  have pv : Plain v := hv.pl2 (by decide)
  have hm : Tm true 8 (.tup [.str "read", a, q]) := .read ha (hq.mono (by decide))
  have pm : Plain (.tup [.str "read", a, q]) := hm.pl2 (by decide)
  have hp8 : Tm true 8 p := hp.mono (by decide)
  have hq8 : Tm true 8 q := hq.mono (by decide)
  have pn : Plain (.tup [.str "same", q, p]) := pl_of (same_pl hq8 hp8)
  rw [run41]
  walk_at "wz"
  rw [rngW_ok (by decide) (by decide) (by decide) (by decide)]
  refine forR_W (fun j ρ h' => ∃ z, ρ = [some (.ref l), some (.tup [.str "read", .tup [.str "put", a, p, v], q]), z] ∧ Pre h h') 0 2 ?_ ⟨none, rfl, .refl⟩ ?_
  · intro j ρ h1 hj ⟨z, e, p1⟩
    subst e
    rw [turn_W]
    walk_at "wz"
    rw [hit_W]
    walk_at "wz"
    rw [c_neP pv pv]
    walk_at "wz"
    rw [hit_W]
    refine kind_of (n := n + 2) (hv.mono (by decide)) (na.mono p1) fun h2 p2 => ?_
    walk_at "wz"
    rw [num_eq]
    walk_at "wz"
    rw [miss_W]
    walk_at "wz"
    rw [c_neP pm pm]
    walk_at "wz"
    rw [miss_W]
    refine kind_of (n := n + 2) hm (na.mono (p1.trans p2)) fun h3 p3 => ?_
    walk_at "wz"
    rw [num_eq]
    walk_at "wz"
    rw [need_W]
    walk_at "wz"
    rw [c_neP pn pn]
    walk_at "wz"
    rw [need_W]
    refine statement (n := n) hq8 hp8 (na.mono ((p1.trans p2).trans p3)) fun h4 p4 => ?_
    walk_at "wz"
    exact ⟨kept_nil, _, rfl, ((p1.trans p2).trans p3).trans p4⟩
  · intro ρ h1 ⟨z, e, p1⟩
    subst e
    walk_at "wz"
    exact k _ p1
/-- a thing that may be asked about -/
def Oth (d : D) : Prop := ∃ w r, d = .tup (.str w :: r) ∧ PySem.PyData.strOk w = true ∧ (w = "read" → ∃ u s p, r = [.tup (.str u :: s), p] ∧ PySem.PyData.strOk u = true)
theorem Tm.oth {b : Bool} {k : Nat} {t : D} (h : Tm b k t) : Oth t := by
  cases h with
  | unk _ => exact ⟨_, _, rfl, by decide +kernel, fun e => absurd e (by decide +kernel)⟩
  | num _ => exact ⟨_, _, rfl, by decide +kernel, fun e => absurd e (by decide +kernel)⟩
  | weigh _ _ => exact ⟨_, _, rfl, by decide +kernel, fun e => absurd e (by decide +kernel)⟩
  | call _ => exact ⟨_, _, rfl, by decide +kernel, fun e => absurd e (by decide +kernel)⟩
  | plus _ _ => exact ⟨_, _, rfl, by decide +kernel, fun e => absurd e (by decide +kernel)⟩
  | put _ _ _ => exact ⟨_, _, rfl, by decide +kernel, fun e => absurd e (by decide +kernel)⟩
  | read h1 h2 =>
    refine ⟨_, _, rfl, by decide +kernel, fun _ => ?_⟩
    cases h1 with
    | unk _ => exact ⟨_, _, _, rfl, by decide +kernel⟩
    | put _ _ _ => exact ⟨_, _, _, rfl, by decide +kernel⟩
theorem irp_put : ((tb.fns (n + 1)).call 1 [.tup [.str "read", .tup [.str "put", a, p, v], q]] h).W P X = P (.bl true) h := by
  rw [run1]
  walk_at "ws"
theorem irp_unk : ((tb.fns (n + 1)).call 1 [.tup [.str "read", .tup [.str "unknown", a], q]] h).W P X = P (.bl false) h := by
  rw [run1]
  walk_at "ws"
theorem c_neB {b : Bool} : (cmpop .ne (.bl b) (.bl b) h).W P X = P (.bl false) h := by cases b <;> rfl
end
abbrev HP0 : PH := [O.lst [D.str "x", .str "y", .str "z"], O.lst [D.tup [D.str "n", D.int 0, D.int 3]], O.lst [], O.lst [D.tup [D.str "f", D.tup [D.str "num"], D.str "num"]], O.lst [D.str "a", D.str "b"], O.ins 0 []]
def namesB (h : PH) (l : Nat) : Bool := match h[l]? with
  | some (.ins 0 fs) => (match fs.lookup ("kinds" : Str), fs.lookup ("makers" : Str) with
    | some (.ref a), some (.ref b) => decide (h[a]? = some (.dct KIN)) && (decide (h[b]? = some (.lst MAK)) && (decide (fs.lookup ("kind" : Str) = none) && decide (fs.lookup ("function" : Str) = none)))
    | _, _ => false)
  | _ => false
def names_chk : Bool := match (tb.fns 39).call 14 [D.ref 5, D.ref 0, D.ref 1, D.ref 2, D.ref 3, D.ref 4] HP0 with
  | .ok .non h => namesB h 5
  | _ => false
theorem names_chk_ok : names_chk = true := by decide +kernel
theorem namesB_ok {h : PH} {l : Nat} (e : namesB h l = true) : NamesAt h l := by
  unfold namesB at e
  split at e
  · rename_i fs e1
    split at e
    · rename_i a b e2 e3
      simp only [Bool.and_eq_true, decide_eq_true_eq] at e
      exact ⟨fs, a, b, e1, e2, e3, e.1, e.2.1, e.2.2.1, e.2.2.2⟩
    · cases e
  · cases e
theorem names_ok : ∃ h1, (tb.fns 39).call 14 [D.ref 5, D.ref 0, D.ref 1, D.ref 2, D.ref 3, D.ref 4] HP0 = .ok .non h1 ∧ NamesAt h1 5 := by
  have := names_chk_ok
  unfold names_chk at this
  split at this
  · rename_i h e
    exact ⟨h, e, namesB_ok this⟩
  · cases this
theorem law (ns : List Int) : ((tb.fns 40).call 42 [.scr (ns.map D.int)] []).W (fun d _ => d = .bl true) (fun _ _ => False) := by
  rw [run42]
  walk_at "wz"
  obtain ⟨h1, e1, na⟩ := names_ok
  rw [show (tb.fns 39).ini 0 = some 14 from rfl]
  simp only [e1, W_ok, true_and]
  rw [sl_lst (show lstOf h1 (.scr (ns.map D.int)) = some (ns.map D.int) from rfl), b_addL ((Pre.refl.app _).get get_new) get_new]
  have hc : cut (ns.map D.int) none (some 8) = (ns.take 8).map D.int := by
    have := cut_to (xs := ns.map D.int) (k := 8)
    rw [← List.map_take] at this
    exact this
  rw [hc]
  refine ⟨by simp [mx]; omega, ?_⟩
  rw [seqW_of (seq_ref get_new)]
  have na2 := na.mono (((Pre.refl (h := h1)).app [O.lst ((ns.take 8).map D.int)]).app [O.lst [D.int 0]] |>.app [O.lst ((ns.take 8).map D.int ++ [D.int 0])])
  generalize hh : h1 ++ [O.lst ((ns.take 8).map D.int)] ++ [O.lst [D.int 0]] = h2 at na2 ⊢
  generalize hL : (ns.take 8).map D.int ++ [D.int 0] = L at na2 ⊢
  have hLi : ∀ x ∈ L, ∃ c, x = D.int c := by
    intro x hx
    rw [← hL] at hx
    rcases List.mem_append.mp hx with hx | hx
    · obtain ⟨i, _, rfl⟩ := List.mem_map.mp hx
      exact ⟨i, rfl⟩
    · exact ⟨0, List.mem_singleton.mp hx⟩
  refine forI_W (fun j ρ h' => ∃ z2 z3 z4 z5 z6, ρ = [some (.scr (ns.map D.int)), some (.ref 5), z2, z3, z4, z5, z6] ∧ Pre (h2 ++ [O.lst L]) h') L ?_ ⟨none, none, none, none, none, rfl, .refl⟩ ?_
  · intro j x ρ h3 hx ⟨z2, z3, z4, z5, z6, e, p3⟩
    subst e
    obtain ⟨c, rfl⟩ := hLi x (List.mem_of_getElem? hx)
    have kp : ∀ h', Pre (h2 ++ [O.lst L]) h' → kept (h2 ++ [O.lst L]) h' (locs (.ref h2.length)) = true := fun h' p => kept_one (by rw [get_new, p.get get_new])
    rw [turn_W]
    walk_at "wz"
    refine read_W (n := 31) fun a p h4 p4 ha hp => ?_
    walk_at "wz"
    rw [b_fdivS (by decide) (by decide)]
    walk_at "wz"
    rw [b_mod (by decide)]
    have q0 := Int.emod_nonneg (c / 2) (show (5 : Int) ≠ 0 by decide)
    have q1 := Int.emod_lt_of_pos (c / 2) (show (0 : Int) < 5 by decide)
    generalize c / 2 % 5 = q at q0 q1 ha ⊢
    walk_at "wz"
    rw [rngW_ok (by decide) (by decide) (by omega) (by omega), show q - 0 = q by omega]
    refine forR_W (fun j ρ h' => ∃ a z5, ρ = [some (.scr (ns.map D.int)), some (.ref 5), some (.int c), some (.tup [.str "read", a, p]), some (.int q), z5, z6] ∧ Pre (h2 ++ [O.lst L]) h' ∧ Puts (q.toNat - j) a) 0 q.toNat ?_ ⟨a, z5, rfl, p3.trans p4, ha⟩ ?_
    · intro j ρ h5 hj ⟨a, z5, e, p5, pa⟩
      subst e
      obtain ⟨m, hm⟩ : ∃ m, q.toNat - j = m + 1 := ⟨q.toNat - j - 1, by omega⟩
      have hm' : q.toNat - (j + 1) = m := by omega
      rw [hm] at pa
      rw [hm']
      cases pa with
      | @put _ a pl v pa hpl hv =>
        have ta : Tm false 7 a := pa.t.mono (by omega)
        rw [turn_W]
        walk_at "wz"
        rw [irp_put]
        walk_at "wz"
        rw [c_notB]
        simp only [beq_self_eq_true, Bool.not_true, byT_bl, Bool.false_eq_true, if_false]
        walk_at "wz"
        refine law_is (n := 7) ta hpl hv hp (na2.mono p5) fun h6 p6 => ?_
        walk_at "wz"
        rw [miss_W]
        exact ⟨kept_nil, _, _, rfl, p5.trans p6, pa⟩
    · intro ρ h5 ⟨a, z5, e, p5, pa⟩
      subst e
      rw [Nat.sub_self] at pa
      cases pa with
      | @unk x hx =>
        walk_at "wz"
        rw [irp_unk]
        walk_at "wz"
        rw [c_notB]
        simp only [beq_self_eq_true, Bool.not_true, byT_bl, Bool.false_eq_true, if_false]
        walk_at "wz"
        rw [c_neP (pw "unknown") (pw "unknown")]
        walk_at "wz"
        rw [seqW_of (seq_ref get_new)]
        have tr : Tm true 4 (.tup [.str "read", .tup [.str "unknown", .str x], p]) := .read (.unk hx) hp
        refine forI_W (fun j ρ h' => ∃ z6, ρ = [some (.scr (ns.map D.int)), some (.ref 5), some (.int c), some (.tup [.str "read", .tup [.str "unknown", .str x], p]), some (.int q), z5, z6] ∧ h' = h5 ++ [O.lst [p, D.tup [D.str "unknown", D.str "x"], D.tup [D.str "plus", D.tup []], D.tup [D.str "number", D.tup [D.int 1, D.int 2]], D.tup [D.str "call", D.str "f", D.tup [D.tup [D.str "read", D.tup [D.str "unknown", D.str x], p]]]]]) _ ?_ ⟨z6, rfl, rfl⟩ ?_
        · intro j y ρ h6 hy ⟨z6, e, e6⟩
          subst e e6
          have oy : Oth y := by
            have := List.mem_of_getElem? hy
            simp only [List.mem_cons, List.not_mem_nil, or_false] at this
            rcases this with rfl | rfl | rfl | rfl | rfl
            · exact hp.oth
            · exact (Tm.unk (b := true) (k := 0) (by decide +kernel)).oth
            · exact ⟨_, _, rfl, by decide +kernel, fun e => absurd e (by decide +kernel)⟩
            · exact ⟨_, _, rfl, by decide +kernel, fun e => absurd e (by decide +kernel)⟩
            · exact (Tm.call tr).oth
          obtain ⟨w, r, rfl, hw, hr⟩ := oy
          obtain ⟨b, _, i1, i2⟩ := irp hw hr
          rw [turn_W, t_name]
          simp only [s_cons, s_ife, e_cmp, e_call, es_cons, es_nil, e_var, List.set_cons_succ, List.set_cons_zero, List.getElem?_cons_succ, List.getElem?_cons_zero, List.append_nil]
          rw [i1, i2, c_neB]
          simp only [byT_bl, Bool.false_eq_true, if_false, s_nil]
          exact ⟨kept_one rfl, _, rfl, trivial⟩
        · intro ρ h6 ⟨z6, e, e6⟩
          subst e e6
          walk_at "wz"
          exact ⟨kp _ (p5.app _), _, _, _, _, _, rfl, p5.app _⟩
  · intro ρ h3 ⟨z2, z3, z4, z5, z6, e, p3⟩
    subst e
    walk_at "wz"
def levels : Nat := 40
theorem law_ok (ns : List Int) (hn : ns.length ≤ 63) (_ : ∀ z ∈ ns, PySem.Builtin.Int.intBits z ≤ 1048576) : ∃ h', (tb.fns levels).call 42 [.scr (ns.map D.int)] [] = .ok (.bl true) h' := by
  have := law ns
  unfold levels
  cases e : (tb.fns 40).call 42 [.scr (ns.map D.int)] [] with
  | ok d h => rw [e] at this; exact ⟨h, by rw [show d = .bl true from this]⟩
  | exc c h => rw [e] at this; exact this.elim
  | stk => rw [e] at this; exact this.elim
end Q41

set_option Elab.async false
set_option linter.all false
set_option maxRecDepth 100000
/-! C2: the relation of the pure state with the run's, and the operations. -/
namespace Mp
open PySem PySem.Spec PyProof.Rows L2

theorem mx_eq : mx = sizeLine := by rw [sizeLine_eq]; rfl

/-- where the text's things stand: the written part, the defs, the classes -/
structure Gm where
  K : PySem.W.Frag
  P : Program
  w : World
  fa : Nat → Addr
  ca : Nat → Addr
  xa : Nat → Value

/-- a list of the written part -/
def SqK (K : PySem.W.Frag) (a : Addr) (xs : List V) : Prop :=
  ∃ (o : Obj) (its : Array Value) (n : Nat), K.lookup a = some o ∧ o.cls = .type "list" ∧ o.dict = none ∧ o.data = .seq its n ∧ its.size ≤ sizeLine ∧ Vals xs its.toList
/-- a list that is only read -/
def SqF (K : PySem.W.Frag) (H : Hp) (a : Addr) (xs : List V) : Prop := (∃ ob, H a = some (.frz ob (.lst xs))) ∨ SqK K a xs
theorem SqF.sq {K : PySem.W.Frag} {H : Hp} {a : Addr} {xs : List V} (q : SqF K H a xs) : SqL K H a xs := q.elim (fun q => .inl (.inr q)) .inr
mutual
inductive VD (G : Gm) (m : List Addr) (H : Hp) : V → D → Prop
  | non : VD G m H .non .non
  | bl (b : Bool) : VD G m H (.bl b) (.bl b)
  | int (i : Int) : VD G m H (.int i) (.int i)
  | str (x : Str) : VD G m H (.str x) (.str x)
  | tup {a : Addr} {vs : List V} {ds : List D} : SqT G.K H a vs → VDs G m H vs ds → VD G m H (.ref a) (.tup ds)
  | ref {a : Addr} {l : Nat} : m[l]? = some a → VD G m H (.ref a) (.ref l)
  | fn {a : Addr} {k : Nat} : G.fa k = a → VD G m H (.ref a) (.fn k)
  | scr {a : Addr} {vs : List V} {ds : List D} : SqF G.K H a vs → VDs G m H vs ds → VD G m H (.ref a) (.scr ds)
inductive VDs (G : Gm) (m : List Addr) (H : Hp) : List V → List D → Prop
  | nil : VDs G m H [] []
  | cons {v : V} {vs : List V} {d : D} {ds : List D} : VD G m H v d → VDs G m H vs ds → VDs G m H (v :: vs) (d :: ds)
end

/-- what stands later: more places, the same tuples -/
structure Ext (K : PySem.W.Frag) (m : List Addr) (H : Hp) (m' : List Addr) (H' : Hp) : Prop where
  pre : ∃ r, m' = m ++ r
  tups : ∀ a xs, SqT K H a xs → SqT K H' a xs
  frz : ∀ a xs, SqF K H a xs → SqF K H' a xs
  fr : ∀ a, a ∉ m → H a ≠ none → H' a = H a
  new : ∀ a, a ∈ m' → a ∉ m → H a = none
section
variable {K : PySem.W.Frag} {G : Gm} {m m' m2 : List Addr} {H H' H2 : Hp}
theorem Ext.refl : Ext K m H m H := ⟨⟨[], (List.append_nil _).symm⟩, fun _ _ h => h, fun _ _ h => h, fun _ _ _ => rfl, fun _ h h' => absurd h h'⟩
theorem Ext.trans (a : Ext K m H m' H') (b : Ext K m' H' m2 H2) : Ext K m H m2 H2 := by
  obtain ⟨r, e⟩ := a.pre
  obtain ⟨r', e'⟩ := b.pre
  refine ⟨⟨r ++ r', by rw [e', e, List.append_assoc]⟩, fun x xs h => b.tups x xs (a.tups x xs h), fun x xs h => b.frz x xs (a.frz x xs h), fun x hx hn => ?_, fun x hx hn => ?_⟩
  · have h1 : x ∉ m' := fun q => hn (a.new x q hx)
    have h2 := a.fr x hx hn
    rw [← h2]
    exact b.fr x h1 (by rw [h2]; exact hn)
  · by_cases h1 : x ∈ m'
    · exact a.new x h1 hn
    · have h2 := b.new x hx h1
      cases h3 : H x with
      | none => rfl
      | some o =>
        have h4 := a.fr x hn (by rw [h3]; exact fun z => nomatch z)
        rw [h2, h3] at h4; cases h4
theorem Ext.get (a : Ext K m H m' H') {l : Nat} {x : Addr} (h : m[l]? = some x) : m'[l]? = some x := by
  obtain ⟨r, e⟩ := a.pre
  rw [e, List.getElem?_append_left (List.getElem?_eq_some_iff.mp h).1]
  exact h
mutual
theorem VD.mono2 (hp : ∀ {l : Nat} {x : Addr}, m[l]? = some x → m'[l]? = some x) (ht : ∀ a xs, SqT G.K H a xs → SqT G.K H' a xs) (hf : ∀ a xs, SqF G.K H a xs → SqF G.K H' a xs) : ∀ {v : V} {d : D}, VD G m H v d → VD G m' H' v d
  | _, _, .non => .non
  | _, _, .bl b => .bl b
  | _, _, .int i => .int i
  | _, _, .str x => .str x
  | _, _, .tup a b => .tup (ht _ _ a) (VDs.mono2 hp ht hf b)
  | _, _, .ref a => .ref (hp a)
  | _, _, .fn a => .fn a
  | _, _, .scr a b => .scr (hf _ _ a) (VDs.mono2 hp ht hf b)
theorem VDs.mono2 (hp : ∀ {l : Nat} {x : Addr}, m[l]? = some x → m'[l]? = some x) (ht : ∀ a xs, SqT G.K H a xs → SqT G.K H' a xs) (hf : ∀ a xs, SqF G.K H a xs → SqF G.K H' a xs) : ∀ {v : List V} {d : List D}, VDs G m H v d → VDs G m' H' v d
  | _, _, .nil => .nil
  | _, _, .cons a b => .cons (VD.mono2 hp ht hf a) (VDs.mono2 hp ht hf b)
end
theorem VD.mono (e : Ext G.K m H m' H') {v : V} {d : D} (x : VD G m H v d) : VD G m' H' v d := x.mono2 (fun h => e.get h) e.tups e.frz
theorem VDs.mono (e : Ext G.K m H m' H') {v : List V} {d : List D} (x : VDs G m H v d) : VDs G m' H' v d := x.mono2 (fun h => e.get h) e.tups e.frz
theorem VDs.len : ∀ {v : List V} {d : List D}, VDs G m H v d → v.length = d.length
  | _, _, .nil => rfl
  | _, _, .cons _ b => by rw [List.length_cons, List.length_cons, VDs.len b]
theorem VDs.get : ∀ {vs : List V} {ds : List D} {i : Nat} {d : D}, VDs G m H vs ds → ds[i]? = some d → ∃ v, vs[i]? = some v ∧ VD G m H v d
  | _, _, _, _, .nil, e => by simp at e
  | _, _, 0, _, .cons a b, e => by simp at e; subst e; exact ⟨_, rfl, a⟩
  | _, _, i + 1, d, .cons a b, e => by
    obtain ⟨v, h1, h2⟩ := VDs.get (i := i) (d := d) b (by simpa using e)
    exact ⟨v, by simpa using h1, h2⟩
theorem VDs.getV : ∀ {vs : List V} {ds : List D} {i : Nat} {v : V}, VDs G m H vs ds → vs[i]? = some v → ∃ d, ds[i]? = some d ∧ VD G m H v d
  | _, _, _, _, .nil, e => by simp at e
  | _, _, 0, _, .cons a b, e => by simp at e; subst e; exact ⟨_, rfl, a⟩
  | _, _, i + 1, d, .cons a b, e => by
    obtain ⟨v, h1, h2⟩ := VDs.getV (i := i) (v := d) b (by simpa using e)
    exact ⟨v, by simpa using h1, h2⟩
theorem VDs.append : ∀ {vs ws : List V} {ds es : List D}, VDs G m H vs ds → VDs G m H ws es → VDs G m H (vs ++ ws) (ds ++ es)
  | _, _, _, _, .nil, h => h
  | _, _, _, _, .cons a b, h => .cons a (VDs.append b h)
theorem VDs.take : ∀ {vs : List V} {ds : List D} (n : Nat), VDs G m H vs ds → VDs G m H (vs.take n) (ds.take n)
  | _, _, 0, _ => .nil
  | _, _, _ + 1, .nil => .nil
  | _, _, n + 1, .cons a b => .cons a (VDs.take n b)
theorem VDs.drop : ∀ {vs : List V} {ds : List D} (n : Nat), VDs G m H vs ds → VDs G m H (vs.drop n) (ds.drop n)
  | _, _, 0, h => h
  | _, _, _ + 1, .nil => .nil
  | _, _, n + 1, .cons a b => VDs.drop n b
theorem VDs.set {v : V} {d : D} (x : VD G m H v d) : ∀ {vs : List V} {ds : List D} (n : Nat), VDs G m H vs ds → VDs G m H (vs.set n v) (ds.set n d)
  | _, _, _, .nil => .nil
  | _, _, 0, .cons a b => .cons x b
  | _, _, n + 1, .cons a b => .cons a (VDs.set x n b)
theorem VDs.erase : ∀ {vs : List V} {ds : List D} (n : Nat), VDs G m H vs ds → VDs G m H (vs.eraseIdx n) (ds.eraseIdx n)
  | _, _, _, .nil => .nil
  | _, _, 0, .cons a b => b
  | _, _, n + 1, .cons a b => .cons a (VDs.erase n b)
theorem VDs.dropLast {vs : List V} {ds : List D} (h : VDs G m H vs ds) : VDs G m H vs.dropLast ds.dropLast := by
  rw [List.dropLast_eq_take, List.dropLast_eq_take, h.len]
  exact h.take _
theorem VDs.reverse : ∀ {vs : List V} {ds : List D}, VDs G m H vs ds → VDs G m H vs.reverse ds.reverse
  | _, _, .nil => .nil
  | _, _, .cons a b => by
    rw [List.reverse_cons, List.reverse_cons]
    exact (VDs.reverse b).append (.cons a .nil)
theorem VDs.rep {vs : List V} {ds : List D} (h : VDs G m H vs ds) : ∀ k : Nat, VDs G m H (List.replicate k vs).flatten (List.replicate k ds).flatten
  | 0 => .nil
  | k + 1 => by
    rw [List.replicate_succ, List.replicate_succ, List.flatten_cons, List.flatten_cons]
    exact h.append (VDs.rep h k)
theorem VDs.nil_iff {vs : List V} {ds : List D} (h : VDs G m H vs ds) : vs = [] ↔ ds = [] := by
  cases h with
  | nil => exact ⟨fun _ => rfl, fun _ => rfl⟩
  | cons a b => exact ⟨fun e => (by cases e), fun e => (by cases e)⟩
theorem VDs.isEmpty {vs : List V} {ds : List D} (h : VDs G m H vs ds) : vs.isEmpty = ds.isEmpty := by
  cases h <;> rfl
end

/-- a key of a dict by value -/
def keyD : Key → D
  | .inl i => .int i
  | .inr x => .str x
theorem keyD_inj : ∀ {a b : Key}, keyD a = keyD b → a = b
  | .inl a, .inl b, h => by injection h with h; rw [h]
  | .inr a, .inr b, h => by injection h with h; rw [h]
  | .inl a, .inr b, h => nomatch h
  | .inr a, .inl b, h => nomatch h

inductive KVD (G : Gm) (m : List Addr) (H : Hp) : List (Key × V) → List (D × D) → Prop
  | nil : KVD G m H [] []
  | cons {k : Key} {v : V} {d : D} {r : List (Key × V)} {s : List (D × D)} : VD G m H v d → KVD G m H r s → KVD G m H ((k, v) :: r) ((keyD k, d) :: s)
mutual
/-- a key as the library has it -/
def nk : D → NestedKey
  | .int i => .num i
  | .str x => .text x
  | .tup ds => .tup (nks ds)
  | _ => .none
def nks : List D → List NestedKey
  | [] => []
  | d :: ds => nk d :: nks ds
end
/-- what is true of a dict's object: its entries -/
def KDx (P : Program) (w : World) (a : Addr) (xs : List (NestedKey × Addr × Value)) : Heap → Prop := fun h => ∃ o es ep, h.get? a = some o ∧ o.ExactDict ∧ o.data = .dict es ep ∧ es.toList = xs.map (entryOfKey (nestedKind P w))
inductive TVD (G : Gm) (m : List Addr) (H : Hp) : List (NestedKey × Addr × Value) → List (D × D) → Prop
  | nil : TVD G m H [] []
  | cons {ka : Addr} {u : Value} {v : V} {dk dv : D} {r : List (NestedKey × Addr × Value)} {s : List (D × D)} : keyT dk = some dk → VD G m H (.ref ka) dk → RelV v u → VD G m H v dv → TVD G m H r s → TVD G m H ((nk dk, ka, u) :: r) ((dk, dv) :: s)
inductive FVD (G : Gm) (m : List Addr) (H : Hp) : List (Str × V) → List (Str × D) → Prop
  | nil : FVD G m H [] []
  | cons {k : Str} {v : V} {d : D} {r : List (Str × V)} {s : List (Str × D)} : VD G m H v d → FVD G m H r s → FVD G m H ((k, v) :: r) ((k, d) :: s)

def OR (G : Gm) (m : List Addr) (H : Hp) (a : Addr) : O → Prop
  | .lst ds => ∃ vs, H a = some (.lst vs) ∧ VDs G m H vs ds
  | .dct kvs => ∃ ks, H a = some (.dK ks) ∧ KVD G m H ks kvs
  | .tdc kvs => ∃ xs, H a = some (.ext (KDx G.P G.w a xs)) ∧ TVD G m H xs kvs ∧ (xs.map (·.1)).Nodup ∧ xs.length ≤ sizeLine ∧ (a == sysModules) = false
  | .ins c fs => ∃ dx vs, H a = some (.ins (G.ca c) dx vs) ∧ H dx = some (.own a) ∧ FVD G m H vs fs
structure HR (G : Gm) (m : List Addr) (h : PH) (H : Hp) : Prop where
  len : m.length = h.length
  nd : m.Nodup
  obj : ∀ (l : Nat) (a : Addr) (o : O), m[l]? = some a → h[l]? = some o → OR G m H a o
/-- the slots -/
def ER (G : Gm) (m : List Addr) (H : Hp) (σ : L2.St) (ρ : Env) : Prop := σ.length = ρ.length ∧ ∀ (i : Nat) (d : D), ρ[i]? = some (some d) → ∃ v, σ[i]? = some (some v) ∧ VD G m H v d

/-- p may be written: it is new, or a mutable object stands there -/
def Wr (H : Hp) (p : Addr) : Prop := H p = none ∨ ∃ u, H p = some u ∧ (∀ xs, u ≠ .tup xs) ∧ (∀ q x, u ≠ .frz q x) ∧ ∀ x, u ≠ .own x

section
variable {G : Gm} {m m' m2 : List Addr} {H H' H2 : Hp} {h h' : PH} {σ : L2.St} {ρ : Env}
theorem KVD.mono (e : Ext G.K m H m' H') : ∀ {a : List (Key × V)} {b : List (D × D)}, KVD G m H a b → KVD G m' H' a b
  | _, _, .nil => .nil
  | _, _, .cons a b => .cons (a.mono e) (KVD.mono e b)
theorem TVD.mono (e : Ext G.K m H m' H') : ∀ {a : List (NestedKey × Addr × Value)} {b : List (D × D)}, TVD G m H a b → TVD G m' H' a b
  | _, _, .nil => .nil
  | _, _, .cons k a r b c => .cons k (a.mono e) r (b.mono e) (TVD.mono e c)
theorem FVD.mono (e : Ext G.K m H m' H') : ∀ {a : List (Str × V)} {b : List (Str × D)}, FVD G m H a b → FVD G m' H' a b
  | _, _, .nil => .nil
  | _, _, .cons a b => .cons (a.mono e) (FVD.mono e b)
theorem ER.mono (e : Ext G.K m H m' H') (r : ER G m H σ ρ) : ER G m' H' σ ρ := ⟨r.1, fun i d q => let ⟨v, a, b⟩ := r.2 i d q; ⟨v, a, b.mono e⟩⟩
theorem HR.at (r : HR G m h H) {l : Nat} {o : O} (e : h[l]? = some o) : ∃ a, m[l]? = some a ∧ OR G m H a o := by
  have hl : l < m.length := by rw [r.len]; exact (List.getElem?_eq_some_iff.mp e).1
  exact ⟨m[l], by simp [hl], r.obj l _ o (by simp [hl]) e⟩
theorem HR.of (r : HR G m h H) {l : Nat} {a : Addr} {o : O} (ea : m[l]? = some a) (e : h[l]? = some o) : OR G m H a o := r.obj l a o ea e

theorem tups_upd {K : PySem.W.Frag} {p : Addr} {o : HO} (hn : Wr H p) : ∀ a xs, SqT K H a xs → SqT K (upd H p o) a xs := by
  intro a xs q
  rcases q with (q | ⟨ob, q⟩) | q
  · refine .inl (.inl ?_)
    rw [upd_ne ?_]
    · exact q
    · rintro rfl
      rcases hn with hn | ⟨u, hn, h1, h2, _⟩
      · rw [hn] at q; cases q
      · rw [hn] at q; cases q; exact h1 _ rfl
  · refine .inl (.inr ⟨ob, ?_⟩)
    rw [upd_ne ?_]
    · exact q
    · rintro rfl
      rcases hn with hn | ⟨u, hn, h1, h2, _⟩
      · rw [hn] at q; cases q
      · rw [hn] at q; cases q; exact h2 _ _ rfl
  · exact .inr q
theorem frz_upd {K : PySem.W.Frag} {p : Addr} {o : HO} (hn : Wr H p) : ∀ a xs, SqF K H a xs → SqF K (upd H p o) a xs := by
  intro a xs q
  rcases q with ⟨ob, q⟩ | q
  · refine .inl ⟨ob, ?_⟩
    rw [upd_ne ?_]
    · exact q
    · rintro rfl
      rcases hn with hn | ⟨u, hn, h1, h2, _⟩
      · rw [hn] at q; cases q
      · rw [hn] at q; cases q; exact h2 _ _ rfl
  · exact .inr q
/-- an object but p stays as it is -/
theorem OR.keep {p : Addr} {u : HO} {a : Addr} {o : O} (x : OR G m H a o) (e : Ext G.K m H m' (upd H p u)) (hp : a ≠ p) (hw : Wr H p) : OR G m' (upd H p u) a o := by
  cases o with
  | lst ds => obtain ⟨vs, a1, a2⟩ := x; exact ⟨vs, by rw [upd_ne hp]; exact a1, a2.mono e⟩
  | dct kvs => obtain ⟨ks, a1, a2⟩ := x; exact ⟨ks, by rw [upd_ne hp]; exact a1, a2.mono e⟩
  | tdc kvs => obtain ⟨ks, a1, a2, a3⟩ := x; exact ⟨ks, by rw [upd_ne hp]; exact a1, a2.mono e, a3⟩
  | ins c fs =>
    obtain ⟨dx, vs, a1, a2, a3⟩ := x
    refine ⟨dx, vs, by rw [upd_ne hp]; exact a1, ?_, a3.mono e⟩
    rw [upd_ne ?_]
    · exact a2
    · rintro rfl
      rcases hw with hn | ⟨u, hn, _, _, h3⟩
      · rw [hn] at a2; cases a2
      · rw [hn] at a2; cases a2; exact h3 _ rfl
theorem OR.there {a : Addr} {o : O} (x : OR G m H a o) : H a ≠ none := by
  intro hn
  cases o with
  | lst ds => obtain ⟨vs, a1, a2⟩ := x; rw [hn] at a1; cases a1
  | dct kvs => obtain ⟨ks, a1, a2⟩ := x; rw [hn] at a1; cases a1
  | tdc kvs => obtain ⟨ks, a1, a2⟩ := x; rw [hn] at a1; cases a1
  | ins c fs => obtain ⟨dx, vs, a1, a2, a3⟩ := x; rw [hn] at a1; cases a1
theorem OR.ne_free {p : Addr} {a : Addr} {o : O} (x : OR G m H a o) (hn : H p = none) : a ≠ p := by
  rintro rfl
  exact x.there hn
theorem HR.mem (r : HR G m h H) {a : Addr} (ha : a ∈ m) : H a ≠ none := by
  obtain ⟨l, hl, e⟩ := List.getElem_of_mem ha
  have hl' : l < h.length := by rw [← r.len]; exact hl
  exact (r.obj l a h[l] (by simp [hl, e]) (by simp [hl'])).there
theorem HR.fresh (r : HR G m h H) {p : Addr} (hn : H p = none) : p ∉ m := fun z => r.mem z hn
theorem HR.inj (r : HR G m h H) {l l' : Nat} {a : Addr} (e1 : m[l]? = some a) (e2 : m[l']? = some a) : l = l' := by
  obtain ⟨h1, e1⟩ := List.getElem?_eq_some_iff.mp e1
  obtain ⟨h2, e2⟩ := List.getElem?_eq_some_iff.mp e2
  exact (List.getElem_inj r.nd).mp (e1.trans e2.symm)
theorem ext_new {K : PySem.W.Frag} {p : Addr} {u : HO} (hn : H p = none) : Ext K m H (m ++ [p]) (upd H p u) :=
  ⟨⟨[p], rfl⟩, tups_upd (.inl hn), frz_upd (.inl hn), fun a _ h => upd_ne (by rintro rfl; exact h hn), fun a h h' => by
    rcases List.mem_append.mp h with q | q
    · exact absurd q h'
    · rw [List.mem_singleton.mp q]; exact hn⟩
theorem ext_upd {K : PySem.W.Frag} {p : Addr} {u : HO} (hw : Wr H p) (hm : p ∈ m) : Ext K m H m (upd H p u) :=
  ⟨⟨[], (List.append_nil _).symm⟩, tups_upd hw, frz_upd hw, fun a h _ => upd_ne (by rintro rfl; exact h hm), fun a h h' => absurd h h'⟩
theorem ext_tup {K : PySem.W.Frag} {p : Addr} {u : HO} (hn : H p = none) : Ext K m H m (upd H p u) :=
  ⟨⟨[], (List.append_nil _).symm⟩, tups_upd (.inl hn), frz_upd (.inl hn), fun a _ h => upd_ne (by rintro rfl; exact h hn), fun a h h' => absurd h h'⟩
/-- a tuple is laid -/
theorem HR.tup (r : HR G m h H) {p : Addr} {vs : List V} (hn : H p = none) : HR G m h (upd H p (.tup vs)) :=
  ⟨r.len, r.nd, fun l a o ea eo => (r.obj l a o ea eo).keep (ext_tup hn) ((r.obj l a o ea eo).ne_free hn) (.inl hn)⟩
/-- the places and one more -/
theorem snoc_get {p : Addr} {o : O} (hl : m.length = h.length) {l : Nat} {a : Addr} {o' : O} (ea : (m ++ [p])[l]? = some a) (eo : (h ++ [o])[l]? = some o') : (m[l]? = some a ∧ h[l]? = some o') ∨ (l = m.length ∧ a = p ∧ o' = o) := by
  by_cases hlt : l < m.length
  · rw [List.getElem?_append_left hlt] at ea
    rw [List.getElem?_append_left (by omega)] at eo
    exact .inl ⟨ea, eo⟩
  · rw [List.getElem?_append_right (by omega)] at ea
    rw [List.getElem?_append_right (by omega)] at eo
    have : l = m.length := by
      have := (List.getElem?_eq_some_iff.mp ea).1
      simp at this; omega
    subst this
    rw [hl] at eo
    simp at ea eo
    exact .inr ⟨rfl, ea.symm, eo.symm⟩
theorem nd_snoc {p : Addr} (hm : m.Nodup) (hp : p ∉ m) : (m ++ [p]).Nodup := by
  rw [List.nodup_append]
  refine ⟨hm, by simp, fun a ha b hb => ?_⟩
  rw [List.mem_singleton.mp hb]
  rintro rfl
  exact hp ha
/-- an object is laid -/
theorem HR.new (r : HR G m h H) {p : Addr} {u : HO} {o : O} (hn : H p = none) (ho : OR G (m ++ [p]) (upd H p u) p o) : HR G (m ++ [p]) (h ++ [o]) (upd H p u) := by
  refine ⟨by simp [r.len], nd_snoc r.nd (r.fresh hn), fun l a o' ea eo => ?_⟩
  rcases snoc_get r.len ea eo with ⟨a1, a2⟩ | ⟨a1, a2, a3⟩
  · exact (r.obj l a o' a1 a2).keep (ext_new hn) ((r.obj l a o' a1 a2).ne_free hn) (.inl hn)
  · subst a2 a3
    exact ho
/-- an object is changed -/
theorem HR.put (r : HR G m h H) {l : Nat} {p : Addr} {u : HO} {o o' : O} (ea : m[l]? = some p) (eo : h[l]? = some o) (hw : Wr H p) (ho : OR G m (upd H p u) p o') :
    HR G m (h.set l o') (upd H p u) := by
  have hlt : l < h.length := (List.getElem?_eq_some_iff.mp eo).1
  refine ⟨by simp [r.len], r.nd, fun k a o1 e1 e2 => ?_⟩
  by_cases hk : k = l
  · subst hk
    rw [List.getElem?_set_self hlt] at e2
    cases e2
    rw [ea] at e1; cases e1
    exact ho
  · rw [List.getElem?_set_ne (Ne.symm hk)] at e2
    exact (r.obj k a o1 e1 e2).keep (ext_upd hw (List.mem_of_getElem? ea)) (by rintro rfl; exact hk (r.inj e1 ea)) hw
theorem wr_lst {p : Addr} {vs : List V} (h : H p = some (.lst vs)) : Wr H p := .inr ⟨_, h, (fun _ z => nomatch z), (fun _ _ z => nomatch z), (fun _ z => nomatch z)⟩
theorem wr_dK {p : Addr} {vs : List (Key × V)} (h : H p = some (.dK vs)) : Wr H p := .inr ⟨_, h, (fun _ z => nomatch z), (fun _ _ z => nomatch z), (fun _ z => nomatch z)⟩
theorem wr_ext {p : Addr} {φ : Heap → Prop} (h : H p = some (.ext φ)) : Wr H p := .inr ⟨_, h, (fun _ z => nomatch z), (fun _ _ z => nomatch z), (fun _ z => nomatch z)⟩
theorem wr_ins {p C dx : Addr} {vs : List (Str × V)} (h : H p = some (.ins C dx vs)) : Wr H p := .inr ⟨_, h, (fun _ z => nomatch z), (fun _ _ z => nomatch z), (fun _ z => nomatch z)⟩
theorem seq_of (r : HR G m h H) {v : V} {d : D} {ds : List D} (x : VD G m H v d) (e : seqOf h d = some ds) : ∃ a vs, v = .ref a ∧ (SqL G.K H a vs ∨ SqT G.K H a vs) ∧ VDs G m H vs ds := by
  cases x with
  | tup a b => cases e; exact ⟨_, _, rfl, .inr a, b⟩
  | scr a b => cases e; exact ⟨_, _, rfl, .inl a.sq, b⟩
  | @ref a l hl =>
    have e' : (match h[l]? with
      | some (.lst ds) => some ds
      | _ => none) = some ds := e
    split at e'
    · rename_i ds' eo
      cases e'
      obtain ⟨vs, h1, h2⟩ := r.of hl eo
      exact ⟨_, vs, rfl, .inl (.inl (.inl h1)), h2⟩
    · cases e'
  | _ => cases e
theorem lst_of (r : HR G m h H) {v : V} {d : D} {ds : List D} (x : VD G m H v d) (e : lstOf h d = some ds) : ∃ a vs, v = .ref a ∧ SqL G.K H a vs ∧ VDs G m H vs ds := by
  cases x with
  | scr a b => cases e; exact ⟨_, _, rfl, a.sq, b⟩
  | @ref a l hl =>
    have e' : (match h[l]? with
      | some (.lst ds) => some ds
      | _ => none) = some ds := e
    split at e'
    · rename_i ds' eo
      cases e'
      obtain ⟨vs, h1, h2⟩ := r.of hl eo
      exact ⟨_, vs, rfl, .inl (.inl h1), h2⟩
    · cases e'
  | _ => cases e
end

/-! ### what is wanted behind -/
/-- behind an expression; W: what is wanted of an exception -/
def post (G : Gm) (W : WX) (σ : L2.St) (m : List Addr) (H : Hp) (Q : VK) : Res D → Prop
  | .ok d h' => ∀ m' v H', Ext G.K m H m' H' → HR G m' h' H' → VD G m' H' v d → Q v H'
  | .exc c h' => ∀ m' H', Ext G.K m H m' H' → HR G m' h' H' → W (G.xa c) none σ H'
  | .stk => False
def posts (G : Gm) (W : WX) (σ : L2.St) (m : List Addr) (H : Hp) (Q : List V → Hp → Prop) : Res (List D) → Prop
  | .ok d h' => ∀ m' v H', Ext G.K m H m' H' → HR G m' h' H' → VDs G m' H' v d → Q v H'
  | .exc c h' => ∀ m' H', Ext G.K m H m' H' → HR G m' h' H' → W (G.xa c) none σ H'
  | .stk => False
section
variable {G : Gm} {W : WX} {m m' m2 : List Addr} {H H' H2 : Hp} {h h' : PH} {σ : L2.St} {ρ : Env} {Q : VK}
theorem post_ext {r : Res D} (e : Ext G.K m H m' H') (p : post G W σ m H Q r) : post G W σ m' H' Q r := by
  cases r with
  | ok d h' => exact fun m2 v H2 e2 => p m2 v H2 (e.trans e2)
  | exc c h' => exact fun m2 H2 e2 => p m2 H2 (e.trans e2)
  | stk => exact p
theorem posts_ext {Q : List V → Hp → Prop} {r : Res (List D)} (e : Ext G.K m H m' H') (p : posts G W σ m H Q r) : posts G W σ m' H' Q r := by
  cases r with
  | ok d h' => exact fun m2 v H2 e2 => p m2 v H2 (e.trans e2)
  | exc c h' => exact fun m2 H2 e2 => p m2 H2 (e.trans e2)
  | stk => exact p
/-- a value has come, f is left -/
theorem post_bind {r : Res D} {f : D → PH → Res D} (p : post G W σ m H Q (r.bind f)) :
    post G W σ m H (fun v H1 => ∃ m1 d h1, Ext G.K m H m1 H1 ∧ HR G m1 h1 H1 ∧ VD G m1 H1 v d ∧ post G W σ m1 H1 Q (f d h1)) r := by
  cases r with
  | ok d h' => exact fun m1 v H1 e hr vd => ⟨m1, d, h', e, hr, vd, post_ext e p⟩
  | exc c h' => exact p
  | stk => exact p
theorem post_binds {r : Res (List D)} {f : List D → PH → Res D} (p : post G W σ m H Q (r.bind f)) :
    posts G W σ m H (fun v H1 => ∃ m1 d h1, Ext G.K m H m1 H1 ∧ HR G m1 h1 H1 ∧ VDs G m1 H1 v d ∧ post G W σ m1 H1 Q (f d h1)) r := by
  cases r with
  | ok d h' => exact fun m1 v H1 e hr vd => ⟨m1, d, h', e, hr, vd, post_ext e p⟩
  | exc c h' => exact p
  | stk => exact p
theorem posts_bind {Q : List V → Hp → Prop} {r : Res D} {f : D → PH → Res (List D)} (p : posts G W σ m H Q (r.bind f)) :
    post G W σ m H (fun v H1 => ∃ m1 d h1, Ext G.K m H m1 H1 ∧ HR G m1 h1 H1 ∧ VD G m1 H1 v d ∧ posts G W σ m1 H1 Q (f d h1)) r := by
  cases r with
  | ok d h' => exact fun m1 v H1 e hr vd => ⟨m1, d, h', e, hr, vd, posts_ext e p⟩
  | exc c h' => exact p
  | stk => exact p
theorem posts_binds {Q : List V → Hp → Prop} {r : Res (List D)} {f : List D → PH → Res (List D)} (p : posts G W σ m H Q (r.bind f)) :
    posts G W σ m H (fun v H1 => ∃ m1 d h1, Ext G.K m H m1 H1 ∧ HR G m1 h1 H1 ∧ VDs G m1 H1 v d ∧ posts G W σ m1 H1 Q (f d h1)) r := by
  cases r with
  | ok d h' => exact fun m1 v H1 e hr vd => ⟨m1, d, h', e, hr, vd, posts_ext e p⟩
  | exc c h' => exact p
  | stk => exact p
end

/-- an expression's reading -/
def tE (G : Gm) (W : WX) (F : Fns) (e : Ex) : TE := fun σ H Q => ∃ m ρ h, HR G m h H ∧ ER G m H σ ρ ∧ post G W σ m H Q (evE F e ρ h)
def tEs (G : Gm) (W : WX) (F : Fns) (e : Exs) : TA := fun σ H Q => ∃ m ρ h, HR G m h H ∧ ER G m H σ ρ ∧ posts G W σ m H Q (evEs F e ρ h)
/-- operations by values -/
def rB (G : Gm) (f : D → D → PH → Res D) : R2 := fun x y H Q => ∃ m a b h, HR G m h H ∧ VD G m H x a ∧ VD G m H y b ∧ post G (fun _ _ _ _ => False) [] m H Q (f a b h)
def rL (G : Gm) (f : List D → PH → Res D) : List V → Hp → VK → Prop := fun xs H Q => ∃ m as h, HR G m h H ∧ VDs G m H xs as ∧ post G (fun _ _ _ _ => False) [] m H Q (f as h)
theorem _root_.L2.PE.weaken {X : Cx} {e : Expr} {t t' : TE} (p : PE X e t) (h : ∀ σ H Q, t' σ H Q → t σ H Q) : PE X e t' := ⟨fun pins s σ H Q I q => p.run pins s σ H Q I (h σ H Q q)⟩
theorem _root_.L2.PT.weaken {X : Cx} {e : Expr} {t t' : TT} (p : PT X e t) (h : ∀ σ H Q, t' σ H Q → t σ H Q) : PT X e t' := ⟨fun pins s σ H Q I q => p.run pins s σ H Q I (h σ H Q q)⟩
theorem _root_.L2.PA.weaken {X : Cx} {e : List Expr} {t t' : TA} (p : PA X e t) (h : ∀ σ H Q, t' σ H Q → t σ H Q) : PA X e t' := ⟨fun pos pins s σ H Q I q => p.run pos pins s σ H Q I (h σ H Q q)⟩
theorem _root_.L2.PS.weaken {X : Cx} {e : Stmt} {t t' : TS} (p : PS X e t) (h : ∀ D σ H, t' D σ H → t D σ H) : PS X e t' := ⟨fun pins s σ H D I q => p.run pins s σ H D I (h D σ H q)⟩
/-- an operation that raises nothing -/
theorem post_quiet {G : Gm} {W : WX} {σ : L2.St} {m : List Addr} {H : Hp} {Q : VK} {r : Res D} (hq : ∀ c h, r ≠ .exc c h) (p : post G W σ m H Q r) : post G (fun _ _ _ _ => False) [] m H Q r := by
  cases r with
  | ok d h' => exact p
  | exc c h' => exact absurd rfl (hq c h')
  | stk => exact p
end Mp

set_option Elab.async false
set_option linter.all false
set_option maxRecDepth 100000
set_option maxHeartbeats 1000000
/-! CT: dicts whose keys are tuples: what the run does. -/
namespace Mp
open PySem PySem.Spec PyProof.Rows L2
mutual
theorem nk_inj : ∀ (n m : Nat) (a b : D), tkB n a = true → tkB m b = true → nk a = nk b → a = b
  | n, m, .non, b, ha, hb, e => by
    cases b with
    | non => rfl
    | int j => cases e
    | str y => cases e
    | tup _ => simp only [nk] at e; cases e
    | bl _ => cases m <;> cases hb
    | ref _ => cases m <;> cases hb
    | fn _ => cases m <;> cases hb
    | exn _ => cases m <;> cases hb
    | lst _ => cases m <;> cases hb
    | scr _ => cases m <;> cases hb
  | n, m, .int i, b, ha, hb, e => by
    cases b with
    | int j => simp only [nk] at e; injection e with e; rw [e]
    | non => simp only [nk] at e; cases e
    | str y => simp only [nk] at e; cases e
    | tup _ => simp only [nk] at e; cases e
    | bl _ => cases m <;> cases hb
    | ref _ => cases m <;> cases hb
    | fn _ => cases m <;> cases hb
    | exn _ => cases m <;> cases hb
    | lst _ => cases m <;> cases hb
    | scr _ => cases m <;> cases hb
  | n, m, .str i, b, ha, hb, e => by
    cases b with
    | str j => simp only [nk] at e; injection e with e; rw [e]
    | non => simp only [nk] at e; cases e
    | int y => simp only [nk] at e; cases e
    | tup _ => simp only [nk] at e; cases e
    | bl _ => cases m <;> cases hb
    | ref _ => cases m <;> cases hb
    | fn _ => cases m <;> cases hb
    | exn _ => cases m <;> cases hb
    | lst _ => cases m <;> cases hb
    | scr _ => cases m <;> cases hb
  | 0, m, .tup as, b, ha, hb, e => nomatch ha
  | n + 1, m, .tup as, b, ha, hb, e => by
    cases b with
    | tup bs =>
      cases m with
      | zero => cases hb
      | succ m =>
        have ha' : as.all (tkB n) = true := ha
        have hb' : bs.all (tkB m) = true := hb
        rw [List.all_eq_true] at ha' hb'
        simp only [nk] at e
        injection e with e
        rw [nks_inj n m as bs ha' hb' e]
    | non => simp only [nk] at e; cases e
    | int y => simp only [nk] at e; cases e
    | str y => simp only [nk] at e; cases e
    | bl _ => cases m <;> cases hb
    | ref _ => cases m <;> cases hb
    | fn _ => cases m <;> cases hb
    | exn _ => cases m <;> cases hb
    | lst _ => cases m <;> cases hb
    | scr _ => cases m <;> cases hb
  | n, m, .bl _, b, ha, hb, e => by cases n <;> cases ha
  | n, m, .ref _, b, ha, hb, e => by cases n <;> cases ha
  | n, m, .fn _, b, ha, hb, e => by cases n <;> cases ha
  | n, m, .exn _, b, ha, hb, e => by cases n <;> cases ha
  | n, m, .lst _, b, ha, hb, e => by cases n <;> cases ha
  | n, m, .scr _, b, ha, hb, e => by cases n <;> cases ha
theorem nks_inj : ∀ (n m : Nat) (a b : List D), (∀ x ∈ a, tkB n x = true) → (∀ x ∈ b, tkB m x = true) → nks a = nks b → a = b
  | n, m, [], [], _, _, _ => rfl
  | n, m, [], _ :: _, _, _, e => by simp only [nks] at e; cases e
  | n, m, _ :: _, [], _, _, e => by simp only [nks] at e; cases e
  | n, m, a :: as, b :: bs, ha, hb, e => by
    simp only [nks] at e
    injection e with e1 e2
    rw [nk_inj n m a b (ha a List.mem_cons_self) (hb b List.mem_cons_self) e1, nks_inj n m as bs (fun x hx => ha x (List.mem_cons_of_mem _ hx)) (fun x hx => hb x (List.mem_cons_of_mem _ hx)) e2]
end
theorem keyT_ok {d k : D} (e : keyT d = some k) : k = d ∧ tkB 8 d = true ∧ ∃ ds, d = .tup ds := by
  cases d with
  | tup ds =>
    have e' : (if tkB 8 (.tup ds) then some (D.tup ds) else none) = some k := e
    split at e'
    · rename_i h; cases e'; exact ⟨rfl, h, ds, rfl⟩
    · cases e'
  | _ => cases e
theorem keyT_inj {a b : D} (ha : keyT a = some a) (hb : keyT b = some b) (e : nk a = nk b) : a = b := nk_inj 8 8 a b (keyT_ok ha).2.1 (keyT_ok hb).2.1 e
section
variable {G : Gm} {m m' : List Addr} {H : Hp} {h : PH} {X : Cx} {pins : List (Addr × Obj)} {σ : L2.St} {s : Shared}
mutual
theorem nested_of (I : Inv X pins σ H s) (hK : X.K = G.K) : ∀ (n : Nat) (v : V) (d : D) (u : Value), VD G m H v d → RelV v u → tkB n d = true → NestedIs s.heap (nk d) u ∧ (nk d).depth ≤ n
  | n, _, _, u, .non, r, t => by cases (show u = Value.none from r); exact ⟨by simp only [nk]; exact .none, by simp only [nk, NestedKey.depth]; omega⟩
  | n, _, _, u, .int i, r, t => by obtain ⟨t, rfl⟩ := (show ∃ t, u = Value.int i t from r); exact ⟨by simp only [nk]; exact .int i t, by simp only [nk, NestedKey.depth]; omega⟩
  | n, _, _, u, .str x, r, t => by obtain ⟨t, rfl⟩ := (show ∃ t, u = Value.str x t from r); exact ⟨by simp only [nk]; exact .text x t, by simp only [nk, NestedKey.depth]; omega⟩
  | 0, _, _, u, .tup a b, r, t => nomatch t
  | n + 1, _, _, u, .tup (a := a) (ds := ds) q b, r, t => by
    cases (show u = Value.ref a from r)
    obtain ⟨its, rv, ⟨o, h1, h2, k, h3⟩, _⟩ := I.tuple (hK ▸ q)
    have t' : ds.all (tkB n) = true := t
    rw [List.all_eq_true] at t'
    obtain ⟨n1, n2⟩ := nesteds_of I hK n _ _ _ b rv t'
    refine ⟨by simp only [nk]; exact .tup h1 h2 h3 (by simpa using n1), by simp only [nk, NestedKey.depth]; omega⟩
  | n, _, _, u, .bl b, r, t => by cases n <;> cases t
  | n, _, _, u, .ref _, r, t => by cases n <;> cases t
  | n, _, _, u, .fn _, r, t => by cases n <;> cases t
  | n, _, _, u, .scr _ _, r, t => by cases n <;> cases t
theorem nesteds_of (I : Inv X pins σ H s) (hK : X.K = G.K) : ∀ (n : Nat) (vs : List V) (ds : List D) (us : List Value), VDs G m H vs ds → Vals vs us → (∀ d ∈ ds, tkB n d = true) → NestedAll s.heap (nks ds) us ∧ NestedKey.depthAll (nks ds) ≤ n
  | n, _, _, _, .nil, .nil, t => ⟨by simp only [nks]; exact .nil, by simp only [nks, NestedKey.depthAll]; omega⟩
  | n, _, _, _, .cons a b, .cons r rs, t => by
    obtain ⟨n1, n2⟩ := nested_of I hK n _ _ _ a r (t _ List.mem_cons_self)
    obtain ⟨k1, k2⟩ := nesteds_of I hK n _ _ _ b rs fun d hd => t d (List.mem_cons_of_mem _ hd)
    exact ⟨by simp only [nks]; exact .cons n1 k1, by simp only [nks, NestedKey.depthAll]; omega⟩
end
/-- a key's value is the library's key -/
theorem key_is (I : Inv X pins σ H s) (hK : X.K = G.K) {d k : D} {v : V} {u : Value} (e : keyT d = some k) (va : VD G m H v d) (r : RelV v u) : ∃ a, v = .ref a ∧ u = .ref a ∧ (nestedKind X.prog X.w).is s.heap (nk d) a := by
  obtain ⟨rfl, t, ds, rfl⟩ := keyT_ok e
  cases va with
  | tup q b =>
    rename_i a vs
    cases (show u = Value.ref a from r)
    obtain ⟨n1, n2⟩ := nested_of (m := m) I hK 8 _ _ (Value.ref a) (.tup q b) rfl t
    exact ⟨a, rfl, rfl, n1, n2⟩
theorem tvd_is (I : Inv X pins σ H s) (hK : X.K = G.K) : ∀ {xs : List (NestedKey × Addr × Value)} {kvs : List (D × D)}, TVD G m H xs kvs → ∀ x ∈ xs, (nestedKind X.prog X.w).is s.heap x.1 x.2.1
  | _, _, .nil => fun x hx => nomatch hx
  | _, _, .cons k a r b c => fun x hx => by
    rcases List.mem_cons.mp hx with rfl | hx
    · obtain ⟨a', e1, e2, e3⟩ := key_is (u := .ref _) I hK k a rfl
      cases e1
      exact e3
    · exact tvd_is I hK c x hx
/-- what is tracked, as the library has it -/
theorem td_of (I : Inv X pins σ H s) (hK : X.K = G.K) (hP : X.prog = G.P) (hw : X.w = G.w) {a : Addr} {kvs : List (D × D)} {xs : List (NestedKey × Addr × Value)} (e : H a = some (.ext (KDx G.P G.w a xs))) (t : TVD G m H xs kvs) (nd : (xs.map (·.1)).Nodup) :
    s.heap.DictOfH (nestedKind X.prog X.w) a xs := by
  obtain ⟨⟨o, es, ep, h1, h2, h3, h4⟩, _⟩ := (show ObjOk X.prog X.w H s.heap a (.ext _) from I.hok a _ e)
  rw [← hP, ← hw] at h4
  exact ⟨o, es, ep, h1, h2, h3, h4, tvd_is I hK t, nd⟩
theorem tvd_len : ∀ {xs : List (NestedKey × Addr × Value)} {kvs : List (D × D)}, TVD G m H xs kvs → xs.length = kvs.length
  | _, _, .nil => rfl
  | _, _, .cons _ _ _ _ c => by simp [tvd_len c]
theorem tvd_look {k : D} (hk : keyT k = some k) : ∀ {xs : List (NestedKey × Addr × Value)} {kvs : List (D × D)}, TVD G m H xs kvs → (atKey xs (nk k) = none ∧ look k kvs = none) ∨ ∃ p v d, atKey xs (nk k) = some p ∧ look k kvs = some d ∧ RelV v p.2 ∧ VD G m H v d
  | _, _, .nil => .inl ⟨rfl, rfl⟩
  | _, _, .cons (ka := ka) (u := u) (v := v) (dk := dk) (dv := dv) (r := r) e a rv b c => by
    by_cases z : dk = k
    · subst z
      refine .inr ⟨(ka, u), v, dv, ?_, by unfold look; rw [if_pos rfl], rv, b⟩
      simp [atKey, List.find?_cons]
    · have z' : ¬ nk dk = nk k := fun q => z (keyT_inj e hk q)
      have e1 : atKey ((nk dk, ka, u) :: r) (nk k) = atKey r (nk k) := by simp [atKey, List.find?_cons, z']
      rcases tvd_look hk c with ⟨h1, h2⟩ | ⟨p, v', d', h1, h2, h3, h4⟩
      · exact .inl ⟨by rw [e1]; exact h1, by unfold look; rw [if_neg z]; exact h2⟩
      · exact .inr ⟨p, v', d', by rw [e1]; exact h1, by unfold look; rw [if_neg z]; exact h2, h3, h4⟩
theorem tvd_map {k : D} (hk : keyT k = some k) {w : V} {u : Value} {e : D} (hr : RelV w u) (hw : VD G m H w e) : ∀ {xs : List (NestedKey × Addr × Value)} {kvs : List (D × D)}, TVD G m H xs kvs → TVD G m H (xs.map (putAt (nk k) u)) (kvs.map fun kv => if kv.1 = k then (kv.1, e) else kv)
  | _, _, .nil => .nil
  | _, _, .cons (ka := ka) (u := u') (dk := dk) (dv := dv) ek a rv b c => by
    rw [List.map_cons, List.map_cons]
    by_cases z : dk = k
    · subst z
      have : putAt (nk dk) u (nk dk, ka, u') = (nk dk, ka, u) := by simp [putAt]
      rw [this, if_pos rfl]
      exact .cons ek a hr hw (tvd_map hk hr hw c)
    · have z' : ¬ nk dk = nk k := fun q => z (keyT_inj ek hk q)
      have : putAt (nk k) u (nk dk, ka, u') = (nk dk, ka, u') := by simp [putAt, z']
      rw [this, if_neg z]
      exact .cons ek a rv b (tvd_map hk hr hw c)
theorem tvd_snoc {k : D} {ka : Addr} {w : V} {u : Value} {e : D} (hk : keyT k = some k) (va : VD G m H (.ref ka) k) (hr : RelV w u) (hw : VD G m H w e) : ∀ {xs : List (NestedKey × Addr × Value)} {kvs : List (D × D)}, TVD G m H xs kvs → TVD G m H (xs ++ [(nk k, ka, u)]) (kvs ++ [(k, e)])
  | _, _, .nil => .cons hk va hr hw .nil
  | _, _, .cons ek a rv b c => .cons ek a rv b (tvd_snoc hk va hr hw c)
theorem tvd_any {k : D} (hk : keyT k = some k) {xs : List (NestedKey × Addr × Value)} {kvs : List (D × D)} (t : TVD G m H xs kvs) : (kvs.any fun kv => decide (kv.1 = k)) = (atKey xs (nk k)).isSome := by
  induction t with
  | nil => rfl
  | @cons ka u v dk dv r s e a rv b c ih =>
    rw [List.any_cons, ih]
    by_cases z : dk = k
    · subst z; simp [atKey, List.find?_cons]
    · have z' : ¬ nk dk = nk k := fun q => z (keyT_inj e hk q)
      simp [atKey, List.find?_cons, z, z']
theorem tvd_put {k : D} {ka : Addr} {w : V} {u : Value} {e : D} (hk : keyT k = some k) (va : VD G m H (.ref ka) k) (hr : RelV w u) (hw : VD G m H w e) {xs : List (NestedKey × Addr × Value)} {kvs : List (D × D)} (t : TVD G m H xs kvs) : TVD G m H (storedH xs (nk k) ka u) (put k e kvs) := by
  unfold storedH put
  rw [tvd_any hk t]
  split
  · exact tvd_map hk hr hw t
  · exact tvd_snoc hk va hr hw t
theorem tvd_drop {k : D} (hk : keyT k = some k) : ∀ {xs : List (NestedKey × Addr × Value)} {kvs : List (D × D)}, TVD G m H xs kvs → TVD G m H (withoutH xs (nk k)) (drop k kvs)
  | _, _, .nil => .nil
  | _, _, .cons (ka := ka) (u := u) (dk := dk) (dv := dv) (r := r) (s := s) ek a rv b c => by
    have ih := tvd_drop hk c
    unfold withoutH drop at ih ⊢
    by_cases z : dk = k
    · subst z
      rw [List.filter_cons_of_neg (by simp), List.filter_cons_of_neg (by simp)]
      exact ih
    · have z' : ¬ nk dk = nk k := fun q => z (keyT_inj ek hk q)
      rw [List.filter_cons_of_pos (by simp [z']), List.filter_cons_of_pos (by simp [z])]
      exact .cons ek a rv b ih
theorem stored_len (xs : List (NestedKey × Addr × Value)) (k : NestedKey) (a : Addr) (u : Value) : (storedH xs k a u).length ≤ xs.length + 1 := by
  unfold storedH
  split <;> simp
/-- the heap behind a change of the dict -/
theorem td_new (I : Inv X pins σ H s) (hP : X.prog = G.P) (hw : X.w = G.w) {a : Addr} {h' : Heap} {t' : Nat} {ys : List (NestedKey × Addr × Value)} (mu : Mut (H a)) (dd : h'.DictOfH (nestedKind X.prog X.w) a ys) (hs : Heap.SameBut a s.heap h') :
    Inv X pins σ (upd H a (.ext (KDx G.P G.w a ys))) { s with heap := h', toks := t' } := by
  obtain ⟨q, es, ep, hq, h2, h3, h4, _, h5⟩ := dd
  refine d_write I mu hs ⟨q, hq⟩ ⟨⟨q, es, ep, hq, h2, h3, by rw [← hP, ← hw]; exact h4⟩, ⟨q, hq⟩, fun g1 g2 ⟨o, es, ep, k1, k2⟩ hg => ⟨o, es, ep, hg o k1, k2⟩⟩
/-- an empty dict of either kind -/
theorem dk_empty (I : Inv X pins σ H s) {a : Addr} (e : H a = some (.dK [])) : s.heap.DictOfH (nestedKind X.prog X.w) a [] ∧ (a == sysModules) = false := by
  obtain ⟨z, hd, vs, rel, dd⟩ := dk_of I.hok e
  cases rel
  obtain ⟨es, ep, ⟨o, h1, h2, h3⟩, h4, _⟩ := dd.raw
  refine ⟨⟨o, es, ep, h1, h2, h3, ?_, (fun x hx => nomatch hx), List.nodup_nil⟩, hd⟩
  have : es = #[] := Array.eq_empty_of_size_eq_zero h4
  rw [this]; rfl
/-- a dict of tuples, or an empty one -/
def TdAt (G : Gm) (m : List Addr) (H : Hp) (a : Addr) (xs : List (NestedKey × Addr × Value)) (kvs : List (D × D)) : Prop :=
  (H a = some (.ext (KDx G.P G.w a xs)) ∧ TVD G m H xs kvs ∧ (xs.map (·.1)).Nodup ∧ xs.length ≤ sizeLine ∧ (a == sysModules) = false) ∨ (H a = some (.dK []) ∧ xs = [] ∧ kvs = [])
theorem TdAt.tvd {a : Addr} {xs : List (NestedKey × Addr × Value)} {kvs : List (D × D)} (t : TdAt G m H a xs kvs) : TVD G m H xs kvs := by
  rcases t with ⟨_, t, _⟩ | ⟨_, rfl, rfl⟩
  · exact t
  · exact .nil
theorem TdAt.of (I : Inv X pins σ H s) (hK : X.K = G.K) (hP : X.prog = G.P) (hw : X.w = G.w) {a : Addr} {xs : List (NestedKey × Addr × Value)} {kvs : List (D × D)} (t : TdAt G m H a xs kvs) : s.heap.DictOfH (nestedKind X.prog X.w) a xs ∧ (a == sysModules) = false := by
  rcases t with ⟨e, t, nd, _, hd⟩ | ⟨e, rfl, rfl⟩
  · exact ⟨td_of I hK hP hw e t nd, hd⟩
  · exact dk_empty I e
theorem TdAt.size {a : Addr} {xs : List (NestedKey × Addr × Value)} {kvs : List (D × D)} (t : TdAt G m H a xs kvs) : xs.length ≤ sizeLine := by
  rcases t with ⟨_, _, _, z, _⟩ | ⟨_, rfl, _⟩
  · exact z
  · exact Nat.zero_le _
theorem TdAt.mut {a : Addr} {xs : List (NestedKey × Addr × Value)} {kvs : List (D × D)} (t : TdAt G m H a xs kvs) : Mut (H a) ∧ Wr H a := by
  rcases t with ⟨e, _⟩ | ⟨e, _⟩
  · exact ⟨by rw [e]; exact True.intro, wr_ext e⟩
  · exact ⟨by rw [e]; exact True.intro, wr_dK e⟩
theorem td_rel (r : HR G m h H) {v : V} {d : D} {kvs : List (D × D)} (x : VD G m H v d) (e : tdOf h d = some kvs) : ∃ a l xs, v = .ref a ∧ d = .ref l ∧ m[l]? = some a ∧ TdAt G m H a xs kvs ∧ (h[l]? = some (.tdc kvs) ∨ (h[l]? = some (.dct []) ∧ kvs = [])) := by
  cases x with
  | @ref a l hl =>
    have e' : (match h[l]? with
      | some (.tdc kvs) => some kvs
      | some (.dct []) => some []
      | _ => none) = some kvs := e
    split at e'
    · rename_i ds' eo
      cases e'
      obtain ⟨xs, h1⟩ := r.of hl eo
      exact ⟨_, l, xs, rfl, rfl, hl, .inl h1, .inl eo⟩
    · rename_i eo
      cases e'
      obtain ⟨ks, h1, h2⟩ := r.of hl eo
      cases h2
      exact ⟨_, l, [], rfl, rfl, hl, .inr ⟨h1, rfl, rfl⟩, .inr ⟨eo, rfl⟩⟩
    · cases e'
  | _ => cases e
theorem nroom {A : Around} (hu : A.units + 65 < cLine) : (nestedKind X.prog X.w).room A.in1 := by show A.units + 1 + 8 < cLine; omega
end
end Mp

set_option Elab.async false
set_option linter.all false
set_option maxRecDepth 100000
set_option maxHeartbeats 1000000
/-! C3: the operations by values. -/
namespace Mp
open PySem PySem.Spec PyProof.Rows L2
section
variable {G : Gm} {m m' : List Addr} {H H' : Hp} {h h' : PH}

/-! ### data looked through -/
mutual
def toPD : D → PyData
  | .non => .none
  | .bl b => .bool b
  | .int i => .int i
  | .str x => .str x
  | .tup ds => .tuple (toPDs ds)
  | .lst ds => .list (toPDs ds)
  | .ref _ => .none
  | .fn _ => .none
  | .exn _ => .none
  | .scr _ => .none
def toPDs : List D → List PyData
  | [] => []
  | d :: ds => toPD d :: toPDs ds
end
/-- no object stands in it, its texts are texts, at most so deep -/
inductive Gd : Nat → D → Prop
  | non {n : Nat} : Gd n .non
  | bl {n : Nat} (b : Bool) : Gd n (.bl b)
  | int {n : Nat} (i : Int) : Gd n (.int i)
  | str {n : Nat} (x : Str) : PySem.PyData.strOk x = true → Gd n (.str x)
  | tup {n : Nat} {ds : List D} : (∀ d ∈ ds, Gd n d) → Gd (n + 1) (.tup ds)
  | lst {n : Nat} {ds : List D} : (∀ d ∈ ds, Gd n d) → Gd (n + 1) (.lst ds)
theorem mapO_mem {α β : Type} {f : α → Option β} : ∀ {xs : List α} {ys : List β}, mapO f xs = some ys → ∀ y ∈ ys, ∃ x ∈ xs, f x = some y
  | [], ys, e, y, hy => by cases e; cases hy
  | x :: xs, ys, e, y, hy => by
    unfold mapO at e
    split at e
    · rename_i z hz
      split at e
      · rename_i zs hzs
        cases e
        rcases List.mem_cons.mp hy with rfl | hy
        · exact ⟨x, List.mem_cons_self, hz⟩
        · obtain ⟨x', h1, h2⟩ := mapO_mem hzs y hy
          exact ⟨x', List.mem_cons_of_mem _ h1, h2⟩
      · cases e
    · cases e
theorem deref_good : ∀ (n : Nat) (d e : D), deref h n d = some e → Gd n e
  | n, .non, e, q => by unfold deref at q; cases q; exact .non
  | n, .bl b, e, q => by unfold deref at q; cases q; exact .bl b
  | n, .int i, e, q => by unfold deref at q; cases q; exact .int i
  | n, .str x, e, q => by
    unfold deref at q
    split at q
    · rename_i hx; cases q; exact .str x hx
    · cases q
  | 0, .tup ds, e, q => by simp [deref] at q
  | n + 1, .tup ds, e, q => by
    unfold deref at q
    split at q
    · rename_i es hes
      cases q
      exact .tup fun d hd => let ⟨x, _, hx⟩ := mapO_mem hes d hd; deref_good n x d hx
    · cases q
  | 0, .ref l, e, q => by simp [deref] at q
  | n + 1, .ref l, e, q => by
    unfold deref at q
    split at q
    · split at q
      · rename_i es hes
        cases q
        exact .lst fun d hd => let ⟨x, _, hx⟩ := mapO_mem hes d hd; deref_good n x d hx
      · cases q
    · cases q
  | 0, .scr ds, e, q => by simp [deref] at q
  | n + 1, .scr ds, e, q => by
    unfold deref at q
    split at q
    · rename_i es hes
      cases q
      exact .lst fun d hd => let ⟨x, _, hx⟩ := mapO_mem hes d hd; deref_good n x d hx
    · cases q
  | n, .fn k, e, q => by simp [deref] at q
  | n, .exn k, e, q => by simp [deref] at q
  | n, .lst ds, e, q => by simp [deref] at q
theorem toPDs_len : ∀ ds : List D, (toPDs ds).length = ds.length
  | [] => rfl
  | d :: ds => by simp [toPDs, toPDs_len ds]
theorem canLays_of {n : Nat} (ih : ∀ d : D, Gd n d → (toPD d).canLay0 = true ∧ (toPD d).depth ≤ n) : ∀ ds : List D, (∀ d ∈ ds, Gd n d) → PyData.canLayAll0 (toPDs ds) = true ∧ PyData.depthAll (toPDs ds) ≤ n
  | [], _ => by simp [toPDs, PyData.canLayAll0, PyData.depthAll]
  | d :: ds, q => by
    obtain ⟨a, b⟩ := ih d (q d List.mem_cons_self)
    obtain ⟨a', b'⟩ := canLays_of ih ds fun x hx => q x (List.mem_cons_of_mem _ hx)
    refine ⟨by simp [toPDs, PyData.canLayAll0, a, a'], ?_⟩
    simp only [toPDs, PyData.depthAll]
    omega
theorem canLay_of_gd : ∀ (n : Nat) (d : D), Gd n d → (toPD d).canLay0 = true ∧ (toPD d).depth ≤ n
  | n, _, .non => by simp [toPD, PyData.canLay0, PyData.depth]
  | n, _, .bl b => by simp [toPD, PyData.canLay0, PyData.depth]
  | n, _, .int i => by simp [toPD, PyData.canLay0, PyData.depth]
  | n, _, .str x hx => by simp [toPD, PyData.canLay0, PyData.depth, hx]
  | n + 1, _, .tup (ds := ds) q => by
    obtain ⟨a, b⟩ := canLays_of (canLay_of_gd n) ds q
    refine ⟨by simp [toPD, PyData.canLay0, a], ?_⟩
    simp only [toPD, PyData.depth]
    omega
  | n + 1, _, .lst (ds := ds) q => by
    obtain ⟨a, b⟩ := canLays_of (canLay_of_gd n) ds q
    refine ⟨by simp [toPD, PyData.canLay0, a], ?_⟩
    simp only [toPD, PyData.depth]
    omega
theorem shaped_of_gd {d : D} (q : Gd 64 d) : SeqAt.shaped (toPD d) = true := by
  obtain ⟨a, b⟩ := canLay_of_gd 64 d q
  show ((toPD d).canLay0 && decide ((toPD d).depth ≤ 64)) = true
  rw [a, decide_eq_true b]; rfl
mutual
theorem eqv_pd : ∀ (a b : D) (n k : Nat), Gd n a → Gd k b → PyData.eqv (toPD a) (toPD b) = D.eqv a b
  | .non, b, n, k, ha, hb => by cases hb <;> simp [toPD, PyData.eqv, D.eqv]
  | .bl x, b, n, k, ha, hb => by cases hb <;> simp [toPD, PyData.eqv, D.eqv]
  | .int x, b, n, k, ha, hb => by cases hb <;> simp [toPD, PyData.eqv, D.eqv]
  | .str x, b, n, k, ha, hb => by cases hb <;> simp [toPD, PyData.eqv, D.eqv]
  | .tup xs, b, n, k, ha, hb => by
    cases ha with
    | tup qa =>
      cases hb with
      | tup qb => simp only [toPD, PyData.eqv, D.eqv]; exact eqvs_pd xs _ _ _ qa qb
      | _ => simp [toPD, PyData.eqv, D.eqv]
  | .lst xs, b, n, k, ha, hb => by
    cases ha with
    | lst qa =>
      cases hb with
      | lst qb => simp only [toPD, PyData.eqv, D.eqv]; exact eqvs_pd xs _ _ _ qa qb
      | _ => simp [toPD, PyData.eqv, D.eqv]
  | .ref _, _, _, _, ha, _ => nomatch ha
  | .fn _, _, _, _, ha, _ => nomatch ha
  | .exn _, _, _, _, ha, _ => nomatch ha
  | .scr _, _, _, _, ha, _ => nomatch ha
theorem eqvs_pd : ∀ (a b : List D) (n k : Nat), (∀ d ∈ a, Gd n d) → (∀ d ∈ b, Gd k d) → PyData.eqvAll (toPDs a) (toPDs b) = D.eqvs a b
  | [], b, n, k, ha, hb => by cases b <;> simp [toPDs, PyData.eqvAll, D.eqvs]
  | x :: xs, b, n, k, ha, hb => by
    cases b with
    | nil => simp [toPDs, PyData.eqvAll, D.eqvs]
    | cons y ys =>
      simp only [toPDs, PyData.eqvAll, D.eqvs]
      rw [eqv_pd x y n k (ha x List.mem_cons_self) (hb y List.mem_cons_self), eqvs_pd xs ys n k (fun d hd => ha d (List.mem_cons_of_mem _ hd)) fun d hd => hb d (List.mem_cons_of_mem _ hd)]
end
theorem Dps_of {n : Nat} (ih : ∀ (v : V) (d e : D), VD G m H v d → deref h n d = some e → Dp G.K H v (toPD e)) : ∀ (vs : List V) (ds es : List D), VDs G m H vs ds → mapO (deref h n) ds = some es → DpAll G.K H vs (toPDs es)
  | _, [], es, .nil, e => by cases e; exact .nil
  | _, d :: ds, es, .cons a b, e => by
    unfold mapO at e
    split at e
    · rename_i z hz
      split at e
      · rename_i zs hzs
        cases e
        exact .cons (ih _ d z a hz) (Dps_of ih _ ds zs b hzs)
      · cases e
    · cases e
theorem Dp_of (r : HR G m h H) : ∀ (n : Nat) (v : V) (d e : D), VD G m H v d → deref h n d = some e → Dp G.K H v (toPD e)
  | n, _, .non, e, .non, q => by unfold deref at q; cases q; exact .non
  | n, _, .bl b, e, .bl _, q => by unfold deref at q; cases q; exact .bl b
  | n, _, .int i, e, .int _, q => by unfold deref at q; cases q; exact .int i
  | n, _, .str x, e, .str _, q => by
    unfold deref at q
    split at q
    · cases q; exact .str x
    · cases q
  | 0, _, .tup ds, e, _, q => by simp [deref] at q
  | n + 1, _, .tup ds, e, .tup a b, q => by
    unfold deref at q
    split at q
    · rename_i es hes
      cases q
      exact .tup a (Dps_of (Dp_of r n) _ ds es b hes)
    · cases q
  | 0, _, .ref l, e, _, q => by simp [deref] at q
  | n + 1, _, .ref l, e, .ref hl, q => by
    unfold deref at q
    split at q
    · rename_i ds eo
      split at q
      · rename_i es hes
        cases q
        obtain ⟨vs, h1, h2⟩ := r.of hl eo
        exact .lst (.inl (.inl h1)) (Dps_of (Dp_of r n) _ ds es h2 hes)
      · cases q
    · cases q
  | 0, _, .scr ds, e, _, q => by simp [deref] at q
  | n + 1, _, .scr ds, e, .scr a b, q => by
    unfold deref at q
    split at q
    · rename_i es hes
      cases q
      exact .lst a.sq (Dps_of (Dp_of r n) _ ds es b hes)
    · cases q
  | n, _, .fn k, e, _, q => by simp [deref] at q
  | n, _, .exn k, e, _, q => by simp [deref] at q
  | n, _, .lst ds, e, _, q => by simp [deref] at q
end

section
variable {G : Gm} {X : Cx}
theorem opr_weaken {f : Value → Value → Sem Value} {r r' : R2} (o : OpR X f r) (h : ∀ x y H Q, r' x y H Q → r x y H Q) : OpR X f r' := fun pins s σ H x y v u Q I rx ry q => o pins s σ H x y v u Q I rx ry (h x y H Q q)
/-! ### binary operators -/
theorem mulOk_cases {i j : Int} (h : mulOk i j = true) : CMul i j ∨ CMulW i j := by
  unfold mulOk at h
  simp only [Bool.or_eq_true, Bool.and_eq_true, decide_eq_true_eq] at h
  rcases h with (h | h) | h
  · exact .inl (.inl h)
  · exact .inl (.inr h)
  · exact .inr (wide_mul h.1 h.2 (by decide) (by decide) (by decide))
theorem newL_ok {m : List Addr} {H : Hp} {h : PH} {ds : List D} {vs : List V} {Q : VK} {W : WX} {σ : L2.St} (hr : HR G m h H) (hv : VDs G m H vs ds) (hp : post G W σ m H Q (newL ds h)) : ∀ p, H p = none → Q (.ref p) (upd H p (.lst vs)) := fun p hn => by
  have e : Ext G.K m H (m ++ [p]) (upd H p (.lst vs)) := ext_new hn
  refine hp (m ++ [p]) (.ref p) _ e (hr.new hn ⟨vs, upd_same, hv.mono e⟩) (.ref ?_)
  rw [← hr.len, List.getElem?_append_right (Nat.le_refl _)]
  simp
theorem tup_ok {m : List Addr} {H : Hp} {h : PH} {ds : List D} {vs : List V} {Q : VK} {W : WX} {σ : L2.St} (hr : HR G m h H) (hv : VDs G m H vs ds) (hp : post G W σ m H Q (.ok (.tup ds) h)) : ∀ p, H p = none → Q (.ref p) (upd H p (.tup vs)) := fun p hn => by
  have e : Ext G.K m H m (upd H p (.tup vs)) := ext_tup hn
  exact hp m _ _ e (hr.tup hn) (.tup (.inl (.inl upd_same)) (hv.mono e))
theorem op_bin (hK : X.K = G.K) (o : Bop) : OpR X (binaryOp (match o with | .add => .Add | .sub => .Sub | .mul => .Mult | .fdiv => .FloorDiv | .mod => .Mod | .pow => .Pow)) (rB G (binop o)) := by
  intro pins s σ H x y v u Q I rx ry hq
  obtain ⟨m, a, b, h, hr, va, vb, hp⟩ := hq
  unfold binop at hp
  split at hp
  · cases va; cases vb
    exact op_add pins s σ H _ _ v u Q I rx ry ⟨_, _, rfl, rfl, hp m _ H .refl hr (.int _)⟩
  · cases va; cases vb
    rename_i i k
    refine op_add_ib pins s σ H _ _ v u Q I rx ry ⟨_, _, rfl, rfl, ?_⟩
    have := hp m _ H .refl hr (.int _)
    cases k <;> exact this
  · cases va; cases vb
    split at hp
    · rename_i hl
      exact op_add_str pins s σ H _ _ v u Q I rx ry ⟨_, _, rfl, rfl, by rw [← mx_eq]; exact hl, hp m _ H .refl hr (.str _)⟩
    · exact hp.elim
  · cases va with
    | tup ta xa =>
      cases vb with
      | tup tb xb =>
        split at hp
        · rename_i hl
          refine op_catA pins s σ H _ _ v u Q I rx ry ⟨_, _, _, _, rfl, rfl, hK ▸ ta, hK ▸ tb, by rw [xa.len, xb.len, ← mx_eq]; exact hl, fun e => ?_, fun e1 e2 => ?_, fun _ _ p hn => ?_⟩
          · have := xa.nil_iff.mp e
            subst this
            exact hp m _ H .refl hr (.tup tb xb)
          · have := xb.nil_iff.mp e2
            subst this
            rw [List.append_nil] at hp
            exact hp m _ H .refl hr (.tup ta xa)
          · exact tup_ok hr (xa.append xb) hp p hn
        · exact hp.elim
  · cases va with
    | ref la =>
      cases vb with
      | ref lb =>
        split at hp
        · rename_i xs ys e1 e2
          split at hp
          · rename_i hl
            obtain ⟨vs, h1, h2⟩ := hr.of la e1
            obtain ⟨ws, h3, h4⟩ := hr.of lb e2
            exact op_cat pins s σ H _ _ v u Q I rx ry ⟨_, _, _, _, rfl, rfl, h1, h3, by rw [h2.len, h4.len, ← mx_eq]; exact hl, newL_ok hr (h2.append h4) hp⟩
          · exact hp.elim
        · exact hp.elim
  · cases va; cases vb
    exact op_sub pins s σ H _ _ v u Q I rx ry ⟨_, _, rfl, rfl, hp m _ H .refl hr (.int _)⟩
  · cases va; cases vb
    split at hp
    · rename_i hm
      rcases mulOk_cases hm with c | c
      · exact op_mul pins s σ H _ _ v u Q I rx ry ⟨_, _, rfl, rfl, c, hp m _ H .refl hr (.int _)⟩
      · exact op_mulW pins s σ H _ _ v u Q I rx ry ⟨_, _, rfl, rfl, c, hp m _ H .refl hr (.int _)⟩
    · exact hp.elim
  · cases va with
    | ref la =>
      cases vb
      split at hp
      · rename_i xs e1
        split at hp
        · rename_i hl
          obtain ⟨vs, h1, h2⟩ := hr.of la e1
          exact op_rep pins s σ H _ _ v u Q I rx ry ⟨_, _, _, rfl, rfl, h1, hl.1, hl.2.1, by rw [h2.len, ← mx_eq]; exact hl.2.2, newL_ok hr (h2.rep _) hp⟩
        · exact hp.elim
      · exact hp.elim
  · cases va; cases vb
    split at hp
    · rename_i c
      exact op_fdivW pins s σ H _ _ v u Q I rx ry ⟨_, _, rfl, rfl, wide_div c.1 c.2 (by decide) (by decide), hp m _ H .refl hr (.int _)⟩
    · split at hp
      · rename_i c
        exact op_fdivN pins s σ H _ _ v u Q I rx ry ⟨_, _, rfl, rfl, ⟨by omega, c.2⟩, hp m _ H .refl hr (.int _)⟩
      · exact hp.elim
  · cases va; cases vb
    split at hp
    · rename_i c
      exact op_mod pins s σ H _ _ v u Q I rx ry ⟨_, _, rfl, rfl, c, hp m _ H .refl hr (.int _)⟩
    · split at hp
      · rename_i c
        exact op_modN pins s σ H _ _ v u Q I rx ry ⟨_, _, rfl, rfl, by omega, hp m _ H .refl hr (.int _)⟩
      · exact hp.elim
  · cases va; cases vb
    split at hp
    · rename_i c
      exact op_pow pins s σ H _ _ v u Q I rx ry ⟨_, _, rfl, rfl, c, hp m _ H .refl hr (.int _)⟩
    · exact hp.elim
  · exact hp.elim

/-! ### comparisons -/
theorem eqD_some {h : PH} {a b : D} {k : Bool} (e : eqD h a b = some k) : ∃ x y, deref h 64 a = some x ∧ deref h 64 b = some y ∧ k = D.eqv x y := by
  unfold eqD at e
  split at e
  · rename_i x y h1 h2
    cases e
    exact ⟨x, y, h1, h2, rfl⟩
  · cases e
theorem op_eqq (hK : X.K = G.K) (hu : X.A.units + 65 < cLine) : OpR X (compareOp .Eq) (rB G (cmpop .eq)) := by
  intro pins s σ H x y v u Q I rx ry hq
  obtain ⟨m, a, b, h, hr, va, vb, hp⟩ := hq
  have hp' : post G (fun _ _ _ _ => False) [] m H Q (bool? (eqD h a b) h) := by
    cases a <;> cases b <;> exact hp
  cases e : eqD h a b with
  | none => rw [e] at hp'; exact hp'.elim
  | some k =>
    rw [e] at hp'
    obtain ⟨da, db, h1, h2, rfl⟩ := eqD_some e
    refine op_eqD (by omega) pins s σ H x y v u Q I rx ry ⟨toPD da, toPD db, hK ▸ Dp_of hr 64 x a da va h1, hK ▸ Dp_of hr 64 y b db vb h2, shaped_of_gd (deref_good 64 a da h1), shaped_of_gd (deref_good 64 b db h2), ?_⟩
    rw [eqv_pd _ _ 64 64 (deref_good 64 a da h1) (deref_good 64 b db h2)]
    exact hp' m _ H .refl hr (.bl _)
theorem op_neq (hK : X.K = G.K) (hu : X.A.units + 65 < cLine) : OpR X (compareOp .NotEq) (rB G (cmpop .ne)) := by
  intro pins s σ H x y v u Q I rx ry hq
  obtain ⟨m, a, b, h, hr, va, vb, hp⟩ := hq
  have hp' : post G (fun _ _ _ _ => False) [] m H Q (bool? ((eqD h a b).map not) h) := by
    cases a <;> cases b <;> exact hp
  cases e : eqD h a b with
  | none => rw [e] at hp'; exact hp'.elim
  | some k =>
    rw [e] at hp'
    obtain ⟨da, db, h1, h2, rfl⟩ := eqD_some e
    refine op_neD (by omega) pins s σ H x y v u Q I rx ry ⟨toPD da, toPD db, hK ▸ Dp_of hr 64 x a da va h1, hK ▸ Dp_of hr 64 y b db vb h2, shaped_of_gd (deref_good 64 a da h1), shaped_of_gd (deref_good 64 b db h2), ?_⟩
    rw [eqv_pd _ _ 64 64 (deref_good 64 a da h1) (deref_good 64 b db h2)]
    exact hp' m _ H .refl hr (.bl _)
theorem any_pd {x : D} {n : Nat} (hx : Gd 64 x) : ∀ ys : List D, (∀ y ∈ ys, Gd n y) → ((toPDs ys).any fun z => PyData.eqv z (toPD x)) = ys.any fun z => D.eqv z x
  | [], _ => rfl
  | y :: ys, q => by
    simp only [toPDs, List.any_cons]
    rw [eqv_pd y x n 64 (q y List.mem_cons_self) hx, any_pd hx ys fun z hz => q z (List.mem_cons_of_mem _ hz)]
theorem key_of {G : Gm} {m : List Addr} {H : Hp} {x : V} {a k : D} (va : VD G m H x a) (e : keyOf a = some k) : ∃ j : Key, x = kV j ∧ k = keyD j := by
  cases va with
  | int i => cases e; exact ⟨.inl i, rfl, rfl⟩
  | str i => cases e; exact ⟨.inr i, rfl, rfl⟩
  | _ => cases e
theorem look_of {G : Gm} {m : List Addr} {H : Hp} (j : Key) : ∀ {ks : List (Key × V)} {kvs : List (D × D)}, KVD G m H ks kvs → (valV ks j = none ∧ look (keyD j) kvs = none) ∨ ∃ v d, valV ks j = some v ∧ look (keyD j) kvs = some d ∧ VD G m H v d
  | _, _, .nil => .inl ⟨rfl, rfl⟩
  | _, _, .cons (k := k) (v := v) (d := d) a b => by
    by_cases e : k = j
    · subst e
      exact .inr ⟨v, d, valV_pos rfl, by unfold look; rw [if_pos rfl], a⟩
    · have e' : ¬ keyD k = keyD j := fun z => e (keyD_inj z)
      rcases look_of j b with ⟨h1, h2⟩ | ⟨v', d', h1, h2, h3⟩
      · exact .inl ⟨by rw [valV_neg e]; exact h1, by unfold look; rw [if_neg e']; exact h2⟩
      · exact .inr ⟨v', d', by rw [valV_neg e]; exact h1, by unfold look; rw [if_neg e']; exact h2, h3⟩
theorem dct_of {G : Gm} {m : List Addr} {H : Hp} {h : PH} (r : HR G m h H) {v : V} {d : D} {kvs : List (D × D)} (x : VD G m H v d) (e : dctOf h d = some kvs) : ∃ a l ks, v = .ref a ∧ d = .ref l ∧ m[l]? = some a ∧ h[l]? = some (.dct kvs) ∧ H a = some (.dK ks) ∧ KVD G m H ks kvs := by
  cases x with
  | @ref a l hl =>
    have e' : (match h[l]? with
      | some (.dct kvs) => some kvs
      | _ => none) = some kvs := e
    split at e'
    · rename_i ds' eo
      cases e'
      obtain ⟨ks, h1, h2⟩ := r.of hl eo
      exact ⟨_, l, ks, rfl, rfl, hl, eo, h1, h2⟩
    · cases e'
  | _ => cases e
theorem memD_cases {h : PH} {a b : D} {k : Bool} (e : memD h a b = some k) :
    (∃ x y, a = .str x ∧ b = .str y ∧ k = !(PySem.Builtin.Str.occurrences y x 0 y.length 1).isEmpty) ∨ (∃ o, dget h b a = some o ∧ k = o.isSome) ∨
    (∃ x ys, deref h 64 a = some x ∧ deref h 64 b = some (.lst ys) ∧ k = ys.any fun z => D.eqv z x) ∨ ∃ x ys, deref h 64 a = some x ∧ deref h 64 b = some (.tup ys) ∧ k = ys.any fun z => D.eqv z x := by
  unfold memD at e
  split at e
  · cases e
    exact .inl ⟨_, _, rfl, rfl, rfl⟩
  · split at e
    · rename_i o ho
      cases e
      exact .inr (.inl ⟨o, ho, rfl⟩)
    · split at e
      · rename_i x ys h1 h2
        cases e
        exact .inr (.inr (.inl ⟨x, ys, h1, h2, rfl⟩))
      · rename_i x ys h1 h2
        cases e
        exact .inr (.inr (.inr ⟨x, ys, h1, h2, rfl⟩))
      · cases e
/-- a dict's look-up, as the run has it -/
theorem dget_cases {G : Gm} {m : List Addr} {H : Hp} {h : PH} (hr : HR G m h H) {v x : V} {a b : D} {o : Option D} (va : VD G m H v a) (vb : VD G m H x b) (e : dget h a b = some o) :
    (∃ p l ks kvs j, v = .ref p ∧ a = .ref l ∧ m[l]? = some p ∧ h[l]? = some (.dct kvs) ∧ H p = some (.dK ks) ∧ KVD G m H ks kvs ∧ x = kV j ∧ keyOf b = some (keyD j) ∧ o = look (keyD j) kvs) ∨
    ∃ p l xs kvs k, v = .ref p ∧ a = .ref l ∧ m[l]? = some p ∧ TdAt G m H p xs kvs ∧ (h[l]? = some (.tdc kvs) ∨ (h[l]? = some (.dct []) ∧ kvs = [])) ∧ keyT b = some k ∧ o = look k kvs := by
  unfold dget at e
  split at e
  · rename_i kvs k h1 h2
    cases e
    obtain ⟨p, l, ks, rfl, rfl, hl, eo, hH, hk⟩ := dct_of hr va h1
    obtain ⟨j, rfl, rfl⟩ := key_of vb h2
    exact .inl ⟨p, l, ks, kvs, j, rfl, rfl, hl, eo, hH, hk, rfl, h2, rfl⟩
  · split at e
    · rename_i kvs k h1 h2
      cases e
      obtain ⟨p, l, xs, rfl, rfl, hl, t, eo⟩ := td_rel hr va h1
      exact .inr ⟨p, l, xs, kvs, k, rfl, rfl, hl, t, eo, h2, rfl⟩
    · cases e
section
variable {G : Gm} {m : List Addr} {H : Hp} {h : PH} {X : Cx} {pins : List (Addr × Obj)} {σ : L2.St} {s : Shared} {E : Value → Shared → Prop}
theorem look_rel {j : Key} {ks : List (Key × V)} {kvs : List (D × D)} (hk : KVD G m H ks kvs) : (valV ks j).isSome = (look (keyD j) kvs).isSome := by
  rcases look_of j hk with ⟨q1, q2⟩ | ⟨w1, w2, q1, q2, _⟩ <;> rw [q1, q2] <;> rfl
theorem dg_in (hK : X.K = G.K) (hP : X.prog = G.P) (hw : X.w = G.w) (hu : X.A.units + 65 < cLine) (I : Inv X pins σ H s) (hr : HR G m h H) {v x : V} {a b : D} {o : Option D} {ua ub : Value} {Q : Value → Shared → Prop} (va : VD G m H v a) (vb : VD G m H x b) (ra : RelV v ua) (rb : RelV x ub)
    (e : dget h a b = some o) (hQ : ∀ s', Inv X pins σ H s' → Q (.bool o.isSome) s') : wpAny (model X.prog X.w) X.A (compareOp .In ub ua) Q E s := by
  rcases dget_cases hr va vb e with ⟨p, l, ks, kvs, j, rfl, rfl, hl, eo, hH, hk, rfl, hb, rfl⟩ | ⟨p, l, xs, kvs, k, rfl, rfl, hl, t, eo, hb, rfl⟩
  · cases (show ua = Value.ref p from ra)
    refine d_in (A := X.A) (by omega) I (DGet.k (k := j) hH) rb fun s' I' => ?_
    rw [look_rel hk]
    exact hQ s' I'
  · cases (show ua = Value.ref p from ra)
    obtain ⟨ka, rfl, rfl, kis⟩ := key_is I hK hb vb rb
    obtain ⟨dd, hd⟩ := t.of I hK hP hw
    obtain ⟨rfl, _, _⟩ := keyT_ok hb
    refine wpAny_in_heap (nroom hu) kis hd dd ?_
    rcases tvd_look hb t.tvd with ⟨q1, q2⟩ | ⟨p', v', d', q1, q2, q3, q4⟩
    · have := hQ _ (I.tok (s.toks + (nestedKind X.prog X.w).draws (nk k)))
      rw [q2] at this
      rw [q1]; exact this
    · have := hQ _ (I.tok (s.toks + (nestedKind X.prog X.w).draws (nk k)))
      rw [q2] at this
      rw [q1]; exact this
theorem dg_notin (hK : X.K = G.K) (hP : X.prog = G.P) (hw : X.w = G.w) (hu : X.A.units + 65 < cLine) (I : Inv X pins σ H s) (hr : HR G m h H) {v x : V} {a b : D} {o : Option D} {ua ub : Value} {Q : Value → Shared → Prop} (va : VD G m H v a) (vb : VD G m H x b) (ra : RelV v ua) (rb : RelV x ub)
    (e : dget h a b = some o) (hQ : ∀ s', Inv X pins σ H s' → Q (.bool (!o.isSome)) s') : wpAny (model X.prog X.w) X.A (compareOp .NotIn ub ua) Q E s := by
  rcases dget_cases hr va vb e with ⟨p, l, ks, kvs, j, rfl, rfl, hl, eo, hH, hk, rfl, hb, rfl⟩ | ⟨p, l, xs, kvs, k, rfl, rfl, hl, t, eo, hb, rfl⟩
  · cases (show ua = Value.ref p from ra)
    refine d_notIn (A := X.A) (by omega) I (DGet.k (k := j) hH) rb fun s' I' => ?_
    rw [look_rel hk]
    exact hQ s' I'
  · cases (show ua = Value.ref p from ra)
    obtain ⟨ka, rfl, rfl, kis⟩ := key_is I hK hb vb rb
    obtain ⟨dd, hd⟩ := t.of I hK hP hw
    obtain ⟨rfl, _, _⟩ := keyT_ok hb
    refine wpAny_notIn_heap (nroom hu) kis hd dd ?_
    rcases tvd_look hb t.tvd with ⟨q1, q2⟩ | ⟨p', v', d', q1, q2, q3, q4⟩
    · have := hQ _ (I.tok (s.toks + (nestedKind X.prog X.w).draws (nk k)))
      rw [q2] at this
      rw [q1]; exact this
    · have := hQ _ (I.tok (s.toks + (nestedKind X.prog X.w).draws (nk k)))
      rw [q2] at this
      rw [q1]; exact this
theorem dg_getItem (hK : X.K = G.K) (hP : X.prog = G.P) (hw : X.w = G.w) (hu : X.A.units + 65 < cLine) (I : Inv X pins σ H s) (hr : HR G m h H) {v x : V} {a b : D} {d : D} {ua ub : Value} {Q : Value → Shared → Prop} (va : VD G m H v a) (vb : VD G m H x b) (ra : RelV v ua) (rb : RelV x ub)
    (e : dget h a b = some (some d)) (hQ : ∀ w u s', Inv X pins σ H s' → RelV w u → VD G m H w d → Q u s') : s.TypeIs ua "dict" ∧ wpAny (model X.prog X.w) X.A (getItem ua ub) Q E s := by
  rcases dget_cases hr va vb e with ⟨p, l, ks, kvs, j, rfl, rfl, hl, eo, hH, hk, rfl, hb, e2⟩ | ⟨p, l, xs, kvs, k, rfl, rfl, hl, t, eo, hb, e2⟩
  · cases (show ua = Value.ref p from ra)
    rcases look_of j hk with ⟨q1, q2⟩ | ⟨w1, w2, q1, q2, q3⟩
    · rw [q2] at e2; cases e2
    · rw [q2] at e2
      cases e2
      have g : DGet H p (kV j) (some w1) := by rw [← q1]; exact DGet.k hH
      exact ⟨dict_typeIs I g, d_getItem (A := X.A) (by omega) I g rb fun w' s' I' rw' => hQ w1 w' s' I' rw' q3⟩
  · cases (show ua = Value.ref p from ra)
    obtain ⟨ka, rfl, rfl, kis⟩ := key_is I hK hb vb rb
    obtain ⟨dd, hd⟩ := t.of I hK hP hw
    obtain ⟨rfl, _, _⟩ := keyT_ok hb
    rcases tvd_look hb t.tvd with ⟨q1, q2⟩ | ⟨p', v', d', q1, q2, q3, q4⟩
    · rw [q2] at e2; cases e2
    · rw [q2] at e2
      cases e2
      exact ⟨dd.typeIs, wpAny_getItem_heap (nroom hu) kis dd q1 (hQ v' _ _ (I.tok _) q3 q4)⟩
end
theorem in_tupD (hu : X.A.units + 65 < cLine) : OpR X (compareOp .In) (fun x y H Q => ∃ d ds, Dp X.K H x d ∧ Dp X.K H y (.tuple ds) ∧ SeqAt.shaped d = true ∧ SeqAt.shaped (.tuple ds) = true ∧ Q (.bl (ds.any fun z => PyData.eqv z d)) H) := by
  intro pins s σ H x y v u Q I rx ry h
  obtain ⟨d, ds, hd, he, sd, se, q⟩ := h
  obtain ⟨as, r1⟩ := Dp.reads I d x v hd rx
  obtain ⟨bs, r2⟩ := Dp.reads I (.tuple ds) y u he ry
  exact SeqAt.in_tuple_reads r2 r1 (SeqAt.canLay_of_shaped se) (SeqAt.canLay_of_shaped sd) (room_in_shaped sd hu) ⟨.bl _, H, I, rfl, q⟩
theorem nin_tupD (hu : X.A.units + 65 < cLine) : OpR X (compareOp .NotIn) (fun x y H Q => ∃ d ds, Dp X.K H x d ∧ Dp X.K H y (.tuple ds) ∧ SeqAt.shaped d = true ∧ SeqAt.shaped (.tuple ds) = true ∧ Q (.bl (!ds.any fun z => PyData.eqv z d)) H) := by
  intro pins s σ H x y v u Q I rx ry h
  obtain ⟨d, ds, hd, he, sd, se, q⟩ := h
  obtain ⟨as, r1⟩ := Dp.reads I d x v hd rx
  obtain ⟨bs, r2⟩ := Dp.reads I (.tuple ds) y u he ry
  exact SeqAt.notIn_tuple_reads r2 r1 (SeqAt.canLay_of_shaped se) (SeqAt.canLay_of_shaped sd) (room_in_shaped sd hu) ⟨.bl _, H, I, rfl, q⟩
theorem op_inq (hK : X.K = G.K) (hP : X.prog = G.P) (hw : X.w = G.w) (hu : X.A.units + 65 < cLine) : OpR X (compareOp .In) (rB G (cmpop .ein)) := by
  intro pins s σ H x y v u Q I rx ry hq
  obtain ⟨m, a, b, h, hr, va, vb, hp⟩ := hq
  have hp' : post G (fun _ _ _ _ => False) [] m H Q (bool? (memD h a b) h) := by
    cases a <;> cases b <;> exact hp
  cases e : memD h a b with
  | none => rw [e] at hp'; exact hp'.elim
  | some k =>
    rw [e] at hp'
    rcases memD_cases e with ⟨x', y', rfl, rfl, rfl⟩ | ⟨o, h1, rfl⟩ | ⟨x', ys, h1, h2, rfl⟩ | ⟨x', ys, h1, h2, rfl⟩
    · cases va; cases vb
      exact op_in_str pins s σ H _ _ v u Q I rx ry ⟨_, _, rfl, rfl, hp' m _ H .refl hr (.bl _)⟩
    · exact dg_in hK hP hw hu I hr vb va ry rx h1 fun s' I' => ⟨.bl _, H, I', rfl, hp' m _ H .refl hr (.bl _)⟩
    · have gx := deref_good 64 a x' h1
      have gy := deref_good 64 b _ h2
      refine op_inD hu pins s σ H x y v u Q I rx ry ⟨toPD x', toPDs ys, hK ▸ Dp_of hr 64 x a x' va h1, hK ▸ (by have := Dp_of hr 64 y b _ vb h2; simpa only [toPD] using this), shaped_of_gd gx, (by have := shaped_of_gd gy; simpa only [toPD] using this), ?_⟩
      cases gy with
      | lst q =>
        rw [any_pd gx ys q]
        exact hp' m _ H .refl hr (.bl _)
    · have gx := deref_good 64 a x' h1
      have gy := deref_good 64 b _ h2
      refine in_tupD hu pins s σ H x y v u Q I rx ry ⟨toPD x', toPDs ys, hK ▸ Dp_of hr 64 x a x' va h1, hK ▸ (by have := Dp_of hr 64 y b _ vb h2; simpa only [toPD] using this), shaped_of_gd gx, (by have := shaped_of_gd gy; simpa only [toPD] using this), ?_⟩
      cases gy with
      | tup q =>
        rw [any_pd gx ys q]
        exact hp' m _ H .refl hr (.bl _)
theorem op_ninq (hK : X.K = G.K) (hP : X.prog = G.P) (hw : X.w = G.w) (hu : X.A.units + 65 < cLine) : OpR X (compareOp .NotIn) (rB G (cmpop .nin)) := by
  intro pins s σ H x y v u Q I rx ry hq
  obtain ⟨m, a, b, h, hr, va, vb, hp⟩ := hq
  have hp' : post G (fun _ _ _ _ => False) [] m H Q (bool? ((memD h a b).map not) h) := by
    cases a <;> cases b <;> exact hp
  cases e : memD h a b with
  | none => rw [e] at hp'; exact hp'.elim
  | some k =>
    rw [e] at hp'
    rcases memD_cases e with ⟨x', y', rfl, rfl, rfl⟩ | ⟨o, h1, rfl⟩ | ⟨x', ys, h1, h2, rfl⟩ | ⟨x', ys, h1, h2, rfl⟩
    · cases va; cases vb
      exact op_notIn_str pins s σ H _ _ v u Q I rx ry ⟨_, _, rfl, rfl, hp' m _ H .refl hr (.bl _)⟩
    · exact dg_notin hK hP hw hu I hr vb va ry rx h1 fun s' I' => ⟨.bl _, H, I', rfl, hp' m _ H .refl hr (.bl _)⟩
    · have gx := deref_good 64 a x' h1
      have gy := deref_good 64 b _ h2
      refine op_notInD hu pins s σ H x y v u Q I rx ry ⟨toPD x', toPDs ys, hK ▸ Dp_of hr 64 x a x' va h1, hK ▸ (by have := Dp_of hr 64 y b _ vb h2; simpa only [toPD] using this), shaped_of_gd gx, (by have := shaped_of_gd gy; simpa only [toPD] using this), ?_⟩
      cases gy with
      | lst q =>
        rw [any_pd gx ys q]
        exact hp' m _ H .refl hr (.bl _)
    · have gx := deref_good 64 a x' h1
      have gy := deref_good 64 b _ h2
      refine nin_tupD hu pins s σ H x y v u Q I rx ry ⟨toPD x', toPDs ys, hK ▸ Dp_of hr 64 x a x' va h1, hK ▸ (by have := Dp_of hr 64 y b _ vb h2; simpa only [toPD] using this), shaped_of_gd gx, (by have := shaped_of_gd gy; simpa only [toPD] using this), ?_⟩
      cases gy with
      | tup q =>
        rw [any_pd gx ys q]
        exact hp' m _ H .refl hr (.bl _)
/-- the orders of whole numbers -/
theorem op_ord {c : Cop} {op : CmpOp} {p : Int → Int → Bool} (hp : ∀ i j h, cmpop c (.int i) (.int j) h = .ok (.bl (p i j)) h) (hno : ∀ a b h d h', cmpop c a b h = .ok d h' → ∃ i j, a = .int i ∧ b = .int j)
    (hx : ∀ a b h c' h', cmpop c a b h ≠ .exc c' h') (ho : OpR X (compareOp op) (rI0 fun i j => .bl (p i j))) : OpR X (compareOp op) (rB G (cmpop c)) := by
  intro pins s σ H x y v u Q I rx ry hq
  obtain ⟨m, a, b, h, hr, va, vb, hq⟩ := hq
  cases e : cmpop c a b h with
  | stk => rw [e] at hq; exact hq.elim
  | exc c' h' => exact absurd e (hx _ _ _ _ _)
  | ok d h' =>
    obtain ⟨i, j, rfl, rfl⟩ := hno a b h d h' e
    rw [hp] at hq
    cases va; cases vb
    exact ho pins s σ H _ _ v u Q I rx ry ⟨_, _, rfl, rfl, hq m _ H .refl hr (.bl _)⟩
theorem op_ltq : OpR X (compareOp .Lt) (rB G (cmpop .lt)) := op_ord (p := fun i j => decide (i < j)) (fun _ _ _ => rfl) (fun a b h d h' e => by cases a <;> cases b <;> first | exact ⟨_, _, rfl, rfl⟩ | (exact nomatch e)) (fun a b h c' h' e => by cases a <;> cases b <;> exact nomatch e) op_lt
theorem op_leq : OpR X (compareOp .LtE) (rB G (cmpop .le)) := op_ord (p := fun i j => decide (i ≤ j)) (fun _ _ _ => rfl) (fun a b h d h' e => by cases a <;> cases b <;> first | exact ⟨_, _, rfl, rfl⟩ | (exact nomatch e)) (fun a b h c' h' e => by cases a <;> cases b <;> exact nomatch e) op_le
theorem op_gtq : OpR X (compareOp .Gt) (rB G (cmpop .gt)) := op_ord (p := fun i j => decide (j < i)) (fun _ _ _ => rfl) (fun a b h d h' e => by cases a <;> cases b <;> first | exact ⟨_, _, rfl, rfl⟩ | (exact nomatch e)) (fun a b h c' h' e => by cases a <;> cases b <;> exact nomatch e) op_gt
theorem op_geq : OpR X (compareOp .GtE) (rB G (cmpop .ge)) := op_ord (p := fun i j => decide (j ≤ i)) (fun _ _ _ => rfl) (fun a b h d h' e => by cases a <;> cases b <;> first | exact ⟨_, _, rfl, rfl⟩ | (exact nomatch e)) (fun a b h c' h' e => by cases a <;> cases b <;> exact nomatch e) op_ge
end
end Mp

set_option Elab.async false
set_option linter.all false
set_option maxRecDepth 100000
set_option maxHeartbeats 1000000
/-! C4: items, slices, truth, built-in functions and methods. -/
namespace Mp
open PySem PySem.Spec PyProof.Rows L2
section
variable {G : Gm} {X : Cx}
theorem op_isNq : OpR X (compareOp .Is) (fun x y H Q => y = .non ∧ rB G (cmpop .isN) x y H Q) := by
  intro pins s σ H x y v u Q I rx ry hq
  obtain ⟨e, m, a, b, h, hr, va, vb, hp⟩ := hq
  have hp' : post G (fun _ _ _ _ => False) [] m H Q (.ok (.bl (decide (a = .non))) h) := by cases a <;> cases b <;> exact hp
  refine op_isN pins s σ H x y v u Q I rx ry ⟨e, ?_⟩
  have q := hp' m _ H .refl hr (.bl _)
  cases va <;> simpa using q
theorem op_notNq : OpR X (compareOp .IsNot) (fun x y H Q => y = .non ∧ rB G (cmpop .notN) x y H Q) := by
  intro pins s σ H x y v u Q I rx ry hq
  obtain ⟨e, m, a, b, h, hr, va, vb, hp⟩ := hq
  have hp' : post G (fun _ _ _ _ => False) [] m H Q (.ok (.bl (!decide (a = .non))) h) := by cases a <;> cases b <;> exact hp
  refine op_notN pins s σ H x y v u Q I rx ry ⟨e, ?_⟩
  have q := hp' m _ H .refl hr (.bl _)
  cases va <;> simpa using q
theorem op_isBq (c : Bool) : OpR X (compareOp .Is) (fun x y H Q => y = .bl c ∧ rB G (cmpop (.isB c)) x y H Q) := by
  intro pins s σ H x y v u Q I rx ry hq
  obtain ⟨e, m, a, b, h, hr, va, vb, hp⟩ := hq
  subst e
  cases va with
  | bl k => exact op_isBl pins s σ H _ _ v u Q I rx ry ⟨k, c, rfl, rfl, by
      have q : Q (.bl (k == c)) H := hp m _ H .refl hr (.bl _)
      cases k <;> cases c <;> exact q⟩
  | _ => exact hp.elim
theorem op_notBq (c : Bool) : OpR X (compareOp .IsNot) (fun x y H Q => y = .bl c ∧ rB G (cmpop (.notB c)) x y H Q) := by
  intro pins s σ H x y v u Q I rx ry hq
  obtain ⟨e, m, a, b, h, hr, va, vb, hp⟩ := hq
  subst e
  cases va with
  | bl k => exact op_notBl pins s σ H _ _ v u Q I rx ry ⟨k, c, rfl, rfl, by
      have q : Q (.bl (!(k == c))) H := hp m _ H .refl hr (.bl _)
      cases k <;> cases c <;> exact q⟩
  | _ => exact hp.elim

/-! ### items, slices -/
theorem place_ix (n : Nat) (i : Int) : place n i = ixN n i := rfl
theorem item_at {m : List Addr} {H : Hp} {vs : List V} {ds : List D} {i : Int} {d : D} (hv : VDs G m H vs ds) (e : item ds i = some d) : ∃ v, atI vs i = some v ∧ VD G m H v d := by
  unfold item at e
  split at e
  · rename_i j hj
    obtain ⟨v, h1, h2⟩ := hv.get e
    refine ⟨v, ?_, h2⟩
    unfold atI
    rw [place_ix, ← hv.len] at hj
    rw [hj]
    exact h1
  · cases e
theorem ix_dict {value slice : Expr} {pins : List (Addr × Obj)} {s : Shared} {σ : L2.St} {v u : Value} {Q : VK} (hT : s.TypeIs v "dict") (hs : subscripted slice false v u = operate [v, u] (getItem v u)) (h : wpAny (model X.prog X.w) X.A (getItem v u) (EP X pins σ Q) X.xe s) :
    wpAny (model X.prog X.w) X.A (subscriptTail value slice v u) (EP X pins σ Q) X.xe s := by
  unfold subscriptTail
  refine wpAny_bind ?_
  rw [getitemInPython_of_ne hT.not_modules]
  refine wpAny_bind (wpAny_specialOf hT PySem.F.slot_dict_getitem.lookup ?_)
  have fin : wpAny (model X.prog X.w) X.A (subscripted slice false v u) (fun r s₃ => wpAny (model X.prog X.w) X.A (letTemporaryGo value v r >>= fun _ => pure r) (EP X pins σ Q) X.xe s₃) X.xe s := by
    rw [hs]
    exact wpAny_operating (wpAny_mono h (fun r s₃ h₃ => wpAny_bind (wpAny_letTemporaryGo (wpAny_pure h₃))) fun _ _ x => x)
  first
    | exact wpAny_pure (wpAny_bind fin)
    | exact wpAny_bind (wpAny_pure (wpAny_bind fin))
    | exact wpAny_bind fin
theorem ix_all (hK : X.K = G.K) (hP : X.prog = G.P) (hw : X.w = G.w) (hu : X.A.units + 65 < cLine) : IxR X (rB G ixop) := by
  intro value slice pins s σ H x y v u Q I rx ry hq hs
  obtain ⟨m, a, b, h, hr, va, vb, hp⟩ := hq
  unfold ixop at hp
  split at hp
  · rename_i d hd
    obtain ⟨t, q⟩ := dg_getItem (Q := EP X pins σ Q) hK hP hw hu I hr va vb rx ry hd fun w u' s' I' rw' vd => ⟨w, H, I', rw', hp m _ H .refl hr vd⟩
    exact ix_dict t hs q
  · exact hp.elim
  split at hp
  · rename_i i _
    cases vb
    split at hp
    · rename_i z _
      cases va
      split at hp
      · rename_i hl
        split at hp
        · rename_i j hj
          split at hp
          · rename_i c hc
            refine ix_str value slice pins s σ H _ _ v u Q I rx ry ⟨z, i, c, rfl, rfl, by rw [← mx_eq]; exact hl, ?_, hp m _ H .refl hr (.str _)⟩ hs
            unfold atI
            rw [place_ix] at hj
            rw [hj]
            exact hc
          · exact hp.elim
        · exact hp.elim
      · exact hp.elim
    · split at hp
      · rename_i ds hds
        split at hp
        · rename_i d hd
          obtain ⟨p, vs, rfl, hsq, hv⟩ := seq_of hr va hds
          obtain ⟨w, h1, h2⟩ := item_at hv hd
          rcases hsq with q | q
          · exact ix_list value slice pins s σ H _ _ v u Q I rx ry ⟨p, vs, i, w, rfl, rfl, hK ▸ q, h1, hp m _ H .refl hr h2⟩ hs
          · exact ix_tup value slice pins s σ H _ _ v u Q I rx ry ⟨p, vs, i, w, rfl, rfl, hK ▸ q, h1, hp m _ H .refl hr h2⟩ hs
        · exact hp.elim
      · exact hp.elim
  · exact hp.elim
theorem sIx_eq (n d : Nat) (o : Option Int) : sIx n d o = HT.sIx n d o := by cases o <;> rfl
theorem cut_rel {m : List Addr} {H : Hp} {vs : List V} {ds : List D} (hv : VDs G m H vs ds) (lo hi : Option Int) : VDs G m H (cutV vs lo hi) (cut ds lo hi) := by
  unfold cutV cut
  rw [sIx_eq, sIx_eq, hv.len]
  exact (hv.drop _).take _
/-- slices by values -/
def rSlq (G : Gm) : V → Option Int → Option Int → Hp → VK → Prop := fun x lo hi H Q => ∃ m a h, HR G m h H ∧ VD G m H x a ∧ post G (fun _ _ _ _ => False) [] m H Q (slop a lo hi h)
theorem cut_whole {ds : List D} {lo hi : Option Int} (h1 : HT.sIx ds.length 0 lo = 0) (h2 : HT.sIx ds.length ds.length hi = ds.length) : cut ds lo hi = ds := by
  unfold cut
  rw [sIx_eq, sIx_eq, h1, h2]
  simp
theorem sl_all (hK : X.K = G.K) : SlR X (rSlq G) := by
  intro pins s σ H x v vl vu lo hi sl Q I rx hs pl pu hq
  obtain ⟨m, a, h, hr, va, hp⟩ := hq
  unfold slop at hp
  split at hp
  · cases va with
    | tup ta xa =>
      refine sl_tupA pins s σ H _ v vl vu lo hi sl Q I rx hs pl pu ⟨_, _, rfl, hK ▸ ta, fun ⟨e1, e2⟩ => ?_, fun _ => tup_ok hr (cut_rel xa lo hi) hp⟩
      rw [xa.len] at e1 e2
      rw [cut_whole e1 e2] at hp
      exact hp m _ H .refl hr (.tup ta xa)
  · split at hp
    · rename_i ds hds
      obtain ⟨p, vs, rfl, hsq, hv⟩ := lst_of hr va hds
      exact sl_list pins s σ H _ v vl vu lo hi sl Q I rx hs pl pu ⟨_, _, rfl, hK ▸ hsq, newL_ok hr (cut_rel hv lo hi) hp⟩
    · exact hp.elim

/-! ### truth -/
theorem tru_of (hK : X.K = G.K) {m : List Addr} {H : Hp} {h : PH} {v : V} {d : D} {b : Bool} (hr : HR G m h H) (va : VD G m H v d) (e : tru h d = some b) : TruV X.K v H b := by
  cases va with
  | non => cases e; rfl
  | bl b => cases e; rfl
  | int i => cases e; rfl
  | str x =>
    have e' : (if x.length ≤ mx then some ((x.length : Int) != 0) else none) = some b := e
    split at e'
    · rename_i hl
      cases e'
      exact ⟨by rw [← mx_eq]; exact hl, rfl⟩
    · cases e'
  | tup ta xa =>
    cases e
    exact .inr (.inl ⟨_, hK ▸ ta, by rw [xa.isEmpty]⟩)
  | scr ta xa =>
    cases e
    exact .inl ⟨_, hK ▸ ta.sq, by rw [xa.isEmpty]⟩
  | @ref a l hl =>
    have e' : (match h[l]? with
      | some (.lst ds) => some (!ds.isEmpty)
      | some (.dct kvs) => some (!kvs.isEmpty)
      | _ => none) = some b := e
    split at e'
    · rename_i ds eo
      cases e'
      obtain ⟨vs, h1, h2⟩ := hr.of hl eo
      exact .inl ⟨_, .inl (.inl h1), by rw [h2.isEmpty]⟩
    · rename_i kvs eo
      cases e'
      obtain ⟨ks, h1, h2⟩ := hr.of hl eo
      refine .inr (.inr ⟨ks, h1, ?_⟩)
      cases h2 <;> rfl
    · cases e'
  | fn _ => cases e

/-! ### built-in functions -/
theorem bools_of {m : List Addr} {H : Hp} : ∀ {vs : List V} {ds : List D} {bs : List Bool}, VDs G m H vs ds → bools ds = some bs → vs = bs.map V.bl
  | _, _, bs, .nil, e => by cases e; rfl
  | _, _, bs, .cons (d := d) (ds := ds) a b, e => by
    unfold bools mapO at e
    split at e
    · rename_i y hy
      split at e
      · rename_i ys hys
        cases e
        cases a <;> cases hy
        rw [bools_of b hys]
        rfl
      · cases e
    · cases e
theorem ints_of {m : List Addr} {H : Hp} : ∀ {vs : List V} {ds : List D} {bs : List Int}, VDs G m H vs ds → intsD ds = some bs → vs = bs.map V.int
  | _, _, bs, .nil, e => by cases e; rfl
  | _, _, bs, .cons (d := d) (ds := ds) a b, e => by
    unfold intsD mapO at e
    split at e
    · rename_i y hy
      split at e
      · rename_i ys hys
        cases e
        cases a <;> cases hy
        rw [ints_of b hys]
        rfl
      · cases e
    · cases e
def tyName : Ty → String
  | .int => "int"
  | .bool => "bool"
  | .str => "str"
  | .list => "list"
  | .tuple => "tuple"
  | .dict => "dict"
/-- the built-in functions' names -/
def bname : Bif → Value
  | .len => .builtin "len"
  | .abs => .builtin "abs"
  | .int => .type "int"
  | .list => .type "list"
  | .tuple => .type "tuple"
  | .isi _ => .builtin "isinstance"
  | .max2 => .builtin "max"
  | .min2 => .builtin "min"
  | .all => .builtin "all"
  | .any => .builtin "any"
  | .sum => .builtin "sum"
  | .maxd => .builtin "max"
theorem vals_ref {a : Addr} {m : List Addr} {H : Hp} {vs : List V} {d : D} (h : VDs G m H vs [d]) : ∃ v, vs = [v] ∧ VD G m H v d := by
  cases h with
  | cons a b => cases b; exact ⟨_, rfl, a⟩
theorem vd1 {m : List Addr} {H : Hp} {vs : List V} {d : D} (h : VDs G m H vs [d]) : ∃ v, vs = [v] ∧ VD G m H v d := by
  cases h with
  | cons a b => cases b; exact ⟨_, rfl, a⟩
theorem vd2 {m : List Addr} {H : Hp} {vs : List V} {d e : D} (h : VDs G m H vs [d, e]) : ∃ v w, vs = [v, w] ∧ VD G m H v d ∧ VD G m H w e := by
  cases h with
  | cons a b =>
    obtain ⟨w, rfl, hb⟩ := vd1 b
    exact ⟨_, _, rfl, a, hb⟩
theorem kit_tt {K : PySem.W.Frag} (a b : Ty) : PySem.W.kitOne K (.type (tyName a)) (.type (tyName b)) = some (a == b || (a == .bool && b == .int)) := by
  cases a <;> cases b <;> exact kit_ty (by decide +kernel)
theorem kit_nt {K : PySem.W.Frag} (b : Ty) : PySem.W.kitOne K (.type "NoneType") (.type (tyName b)) = some false := by
  cases b <;> exact kit_ty (by decide +kernel)
theorem isTy_of {m : List Addr} {H : Hp} {h : PH} {v : V} {d : D} {t : Ty} {b : Bool} (hr : HR G m h H) (va : VD G m H v d) (hnt : ∀ l kvs, d = .ref l → h[l]? ≠ some (.tdc kvs)) (e : isTy h d t = some b) : ∃ c, TyX G.K H v c ∧ PySem.W.kitOne G.K c (.type (tyName t)) = some b := by
  cases va with
  | non => cases e; exact ⟨_, .base .non, kit_nt t⟩
  | bl k => cases e; exact ⟨_, .base (.bl k), by rw [show (Value.type "bool") = .type (tyName .bool) from rfl, kit_tt]; cases t <;> rfl⟩
  | int i => cases e; exact ⟨_, .base (.int i), by rw [show (Value.type "int") = .type (tyName .int) from rfl, kit_tt]; cases t <;> rfl⟩
  | str x => cases e; exact ⟨_, .base (.str x), by rw [show (Value.type "str") = .type (tyName .str) from rfl, kit_tt]; cases t <;> rfl⟩
  | @tup a vs ds ta xa =>
    cases e
    have hk : PySem.W.kitOne G.K (.type "tuple") (.type (tyName t)) = some (decide (t = .tuple)) := by rw [show (Value.type "tuple") = .type (tyName .tuple) from rfl, kit_tt]; cases t <;> rfl
    rcases ta with (q | ⟨ob, q⟩) | ⟨ob, its, n, q, hc, _⟩
    · exact ⟨_, .base (.tup q), hk⟩
    · exact ⟨_, .fTuple q, hk⟩
    · exact ⟨_, .kTuple q hc, hk⟩
  | @scr a vs ds ta xa =>
    cases e
    have hk : PySem.W.kitOne G.K (.type "list") (.type (tyName t)) = some (decide (t = .list)) := by rw [show (Value.type "list") = .type (tyName .list) from rfl, kit_tt]; cases t <;> rfl
    rcases ta with ⟨ob, q⟩ | ⟨ob, its, n, q, hc, _⟩
    · exact ⟨_, .base (.frz q), hk⟩
    · exact ⟨_, .kList q hc, hk⟩
  | @ref a l hl =>
    have e' : (match h[l]? with
      | some (.lst _) => some (decide (t = .list))
      | some (.dct _) => some (decide (t = .dict))
      | some (.tdc _) => some (decide (t = .dict))
      | _ => none) = some b := e
    split at e'
    · rename_i ds eo
      cases e'
      obtain ⟨vs, h1, h2⟩ := hr.of hl eo
      exact ⟨_, .base (.lst h1), by rw [show (Value.type "list") = .type (tyName .list) from rfl, kit_tt]; cases t <;> rfl⟩
    · rename_i ds eo
      cases e'
      obtain ⟨vs, h1, h2⟩ := hr.of hl eo
      exact ⟨_, .base (.dK h1), by rw [show (Value.type "dict") = .type (tyName .dict) from rfl, kit_tt]; cases t <;> rfl⟩
    · rename_i ds eo
      exact absurd eo (hnt l _ rfl)
    · cases e'
  | fn _ => cases e

theorem callr_weaken {f : Value} {r r' : List V → Hp → VK → Prop} (o : CallR X f r) (h : ∀ x H Q, r' x H Q → r x H Q) : CallR X f r' := fun pins s σ H xs us Q I r q => o pins s σ H xs us Q I r (h xs H Q q)
theorem len_ok (hK : X.K = G.K) (hP : X.prog = G.P) (hw : X.w = G.w) : CallR X (.builtin "len") (rL G (bfn .len)) := by
  intro pins s σ H xs us Q I r hq
  obtain ⟨m, as, h, hr, va, hp⟩ := hq
  unfold bfn at hp
  split at hp
  all_goals first
    | (rename_i e; cases e; done)
    | skip
  · rename_i x _ _
    obtain ⟨v, rfl, hv⟩ := vd1 va
    cases hv
    split at hp
    · rename_i hl
      exact call_len_str pins s σ H _ us Q I r ⟨_, rfl, by rw [← mx_eq]; exact hl, hp m _ H .refl hr (.int _)⟩
    · exact hp.elim
  · rename_i a _ _ _
    obtain ⟨v, rfl, hv⟩ := vd1 va
    split at hp
    · rename_i ds hds
      obtain ⟨p, vs, rfl, hsq, hvs⟩ := seq_of hr hv hds
      refine call_len_seq pins s σ H _ us Q I r ⟨p, vs, rfl, hK ▸ hsq, ?_⟩
      rw [hvs.len]
      exact hp m _ H .refl hr (.int _)
    · split at hp
      · rename_i kvs hk
        obtain ⟨a', l, ks, rfl, rfl, hl, eo, hH, hkv⟩ := dct_of hr hv hk
        obtain ⟨u, rfl, ru⟩ := vals1 r
        cases ru
        have hlen : ks.length = kvs.length := by
          clear hp hH eo hk
          induction hkv with
          | nil => rfl
          | cons _ _ ih => simp [ih]
        exact d_len I (.inl hH) fun t s' I' => ⟨.int _, H, I', ⟨t, rfl⟩, by rw [hlen]; exact hp m _ H .refl hr (.int _)⟩
      · split at hp
        · rename_i kvs hk
          obtain ⟨a', l, xs, rfl, rfl, hl, t, eo⟩ := td_rel hr hv hk
          obtain ⟨u, rfl, ru⟩ := vals1 r
          cases (show u = Value.ref a' from ru)
          obtain ⟨dd, hd⟩ := t.of I hK hP hw
          have z := t.size
          have zl := tvd_len t.tvd
          rw [sizeLine_eq] at z
          have hp' := hp m (.int kvs.length) H .refl hr (.int _)
          refine PyProof.Rows.call_len_slot (n := (xs.length : Int)) dd.typeIs PySem.F.slot_dict_len (fun Q' hq => len_keyed hd ⟨xs, dd, rfl⟩ (by rw [pairsH_length]; exact hq)) (by omega) (by omega) ⟨.int _, H, I.tok _, ⟨_, rfl⟩, by rw [zl]; exact hp'⟩
        · exact hp.elim
  all_goals exact hp.elim
theorem abs_ok : CallR X (.builtin "abs") (rL G (bfn .abs)) := by
  intro pins s σ H xs us Q I r hq
  obtain ⟨m, as, h, hr, va, hp⟩ := hq
  unfold bfn at hp
  split at hp
  all_goals first
    | (rename_i e; cases e; done)
    | skip
  · obtain ⟨v, rfl, hv⟩ := vd1 va
    cases hv
    exact call_abs pins s σ H _ us Q I r ⟨_, rfl, hp m _ H .refl hr (.int _)⟩
  all_goals exact hp.elim
theorem int_ok : CallR X (.type "int") (rL G (bfn .int)) := by
  intro pins s σ H xs us Q I r hq
  obtain ⟨m, as, h, hr, va, hp⟩ := hq
  unfold bfn at hp
  split at hp
  all_goals first
    | (rename_i e; cases e; done)
    | skip
  · obtain ⟨v, rfl, hv⟩ := vd1 va
    cases hv
    exact call_int1 pins s σ H _ us Q I r (.inl ⟨_, rfl, hp m _ H .refl hr (.int _)⟩)
  · obtain ⟨v, rfl, hv⟩ := vd1 va
    cases hv
    exact call_int1 pins s σ H _ us Q I r (.inr ⟨_, rfl, hp m _ H .refl hr (.int _)⟩)
  all_goals exact hp.elim
theorem list_ok (hK : X.K = G.K) : CallR X (.type "list") (rL G (bfn .list)) := by
  intro pins s σ H xs us Q I r hq
  obtain ⟨m, as, h, hr, va, hp⟩ := hq
  unfold bfn at hp
  split at hp
  all_goals first
    | (rename_i e; cases e; done)
    | skip
  · obtain ⟨v, rfl, hv⟩ := vd1 va
    split at hp
    · rename_i ds hds
      obtain ⟨p, vs, rfl, hsq, hvs⟩ := seq_of hr hv hds
      exact call_list_of pins s σ H _ us Q I r ⟨p, vs, rfl, hK ▸ hsq, newL_ok hr hvs hp⟩
    · exact hp.elim
  all_goals exact hp.elim
theorem tuple_ok' (hK : X.K = G.K) : CallR X (.type "tuple") (rL G (bfn .tuple)) := by
  intro pins s σ H xs us Q I r hq
  obtain ⟨m, as, h, hr, va, hp⟩ := hq
  unfold bfn at hp
  split at hp
  all_goals first
    | (rename_i e; cases e; done)
    | skip
  · obtain ⟨v, rfl, hv⟩ := vd1 va
    cases hv with
    | tup ta xa => exact call_tuple_of pins s σ H _ us Q I r ⟨_, _, rfl, .inr ⟨hK ▸ ta, hp m _ H .refl hr (.tup ta xa)⟩⟩
  · obtain ⟨v, rfl, hv⟩ := vd1 va
    split at hp
    · rename_i ds hds
      obtain ⟨p, vs, rfl, hsq, hvs⟩ := lst_of hr hv hds
      exact call_tuple_of pins s σ H _ us Q I r ⟨p, vs, rfl, .inl ⟨hK ▸ hsq, tup_ok hr hvs hp⟩⟩
    · exact hp.elim
  all_goals exact hp.elim
theorem max_ok (hc : X.calm = true) : CallR X (.builtin "max") (rL G (bfn .max2)) := by
  intro pins s σ H xs us Q I r hq
  obtain ⟨m, as, h, hr, va, hp⟩ := hq
  unfold bfn at hp
  split at hp
  all_goals first
    | (rename_i e; cases e; done)
    | skip
  · obtain ⟨v, w, rfl, hv, hw⟩ := vd2 va
    cases hv; cases hw
    exact call_max2 hc pins s σ H _ us Q I r ⟨_, _, rfl, hp m _ H .refl hr (.int _)⟩
  all_goals exact hp.elim
theorem min_ok (hc : X.calm = true) : CallR X (.builtin "min") (rL G (bfn .min2)) := by
  intro pins s σ H xs us Q I r hq
  obtain ⟨m, as, h, hr, va, hp⟩ := hq
  unfold bfn at hp
  split at hp
  all_goals first
    | (rename_i e; cases e; done)
    | skip
  · obtain ⟨v, w, rfl, hv, hw⟩ := vd2 va
    cases hv; cases hw
    exact call_min2 hc pins s σ H _ us Q I r ⟨_, _, rfl, hp m _ H .refl hr (.int _)⟩
  all_goals exact hp.elim
theorem all_ok (hK : X.K = G.K) (hc : X.calm = true) : CallR X (.builtin "all") (rL G (bfn .all)) := by
  intro pins s σ H xs us Q I r hq
  obtain ⟨m, as, h, hr, va, hp⟩ := hq
  unfold bfn at hp
  split at hp
  all_goals first
    | (rename_i e; cases e; done)
    | skip
  · obtain ⟨v, rfl, hv⟩ := vd1 va
    split at hp
    · rename_i ds hds
      split at hp
      · rename_i bs hbs
        obtain ⟨p, vs, rfl, hsq, hvs⟩ := lst_of hr hv hds
        have := bools_of hvs hbs
        subst this
        exact cr_all hc pins s σ H _ us Q I r ⟨p, bs, rfl, hK ▸ hsq, hp m _ H .refl hr (.bl _)⟩
      · exact hp.elim
    · exact hp.elim
  all_goals exact hp.elim
theorem any_ok (hK : X.K = G.K) (hc : X.calm = true) : CallR X (.builtin "any") (rL G (bfn .any)) := by
  intro pins s σ H xs us Q I r hq
  obtain ⟨m, as, h, hr, va, hp⟩ := hq
  unfold bfn at hp
  split at hp
  all_goals first
    | (rename_i e; cases e; done)
    | skip
  · obtain ⟨v, rfl, hv⟩ := vd1 va
    split at hp
    · rename_i ds hds
      split at hp
      · rename_i bs hbs
        obtain ⟨p, vs, rfl, hsq, hvs⟩ := lst_of hr hv hds
        have := bools_of hvs hbs
        subst this
        exact cr_any hc pins s σ H _ us Q I r ⟨p, bs, rfl, hK ▸ hsq, hp m _ H .refl hr (.bl _)⟩
      · exact hp.elim
    · exact hp.elim
  all_goals exact hp.elim
theorem sum_ok (hK : X.K = G.K) (hc : X.calm = true) : CallR X (.builtin "sum") (rL G (bfn .sum)) := by
  intro pins s σ H xs us Q I r hq
  obtain ⟨m, as, h, hr, va, hp⟩ := hq
  unfold bfn at hp
  split at hp
  all_goals first
    | (rename_i e; cases e; done)
    | skip
  · obtain ⟨v, rfl, hv⟩ := vd1 va
    split at hp
    · rename_i ds hds
      split at hp
      · rename_i bs hbs
        obtain ⟨p, vs, rfl, hsq, hvs⟩ := lst_of hr hv hds
        have := ints_of hvs hbs
        subst this
        exact cr_sum hc pins s σ H _ us Q I r ⟨p, bs, rfl, hK ▸ hsq, hp m _ H .refl hr (.int _)⟩
      · exact hp.elim
    · exact hp.elim
  all_goals exact hp.elim
theorem isi_ok (t : Ty) : CallR X (.builtin "isinstance") (fun xs H Q => ∃ v, xs = [v, .ty (tyName t)] ∧ X.K = G.K ∧ rL G (bfn (.isi t)) [v] H Q) := by
  intro pins s σ H xs us Q I r hq
  obtain ⟨v, rfl, hK, m, as, h, hr, va, hp⟩ := hq
  cases va with
  | cons hv hn =>
    cases hn
    rename_i d
    have hp' : post G (fun _ _ _ _ => False) [] m H Q (bool? (isTy h d t) h) := hp
    cases e : isTy h d t with
    | none => rw [e] at hp'; exact hp'.elim
    | some b =>
      rw [e] at hp'
      by_cases z : ∃ l kvs, d = .ref l ∧ h[l]? = some (.tdc kvs)
      · obtain ⟨l, kvs, rfl, eo⟩ := z
        cases hv with
        | @ref a _ hl =>
          obtain ⟨xs, h1, _⟩ := hr.of hl eo
          obtain ⟨u1, u2, rfl, r1, r2⟩ := vals2 r
          cases (show u1 = Value.ref a from r1)
          cases (show u2 = Value.type (tyName t) from r2)
          obtain ⟨⟨o, es, ep, k1, k2, k3, k4⟩, _⟩ := (show ObjOk X.prog X.w H s.heap a (.ext _) from I.hok a _ h1)
          have e2 : isTy h (.ref l) t = some (decide (t = Ty.dict)) := by
            show (match h[l]? with
              | some (.lst _) => some (decide (t = Ty.list))
              | some (.dct _) => some (decide (t = Ty.dict))
              | some (.tdc _) => some (decide (t = Ty.dict))
              | _ => none) = _
            rw [eo]
          have hb : PySem.W.kitOne X.K (.type "dict") (.type (tyName t)) = some b := by
            rw [e2] at e
            rw [show (Value.type "dict") = .type (tyName .dict) from rfl, kit_tt, ← e]
            cases t <;> rfl
          exact PySem.W.kia_one PySem.W.kitx_dict I.kIn ⟨o, k1, k2.1⟩ hb (fun z => nomatch z) fun tk => ⟨.bl b, H, I.tok tk, rfl, hp' m _ H .refl hr (.bl _)⟩
      · obtain ⟨c, h1, h2⟩ := isTy_of hr hv (fun l kvs e1 e2 => z ⟨l, kvs, e1, e2⟩) e
        exact call_isi pins s σ H _ us Q I r ⟨v, _, c, _, b, rfl, .ty _, hK ▸ h1, hK ▸ h2, hp' m _ H .refl hr (.bl _)⟩

/-! ### methods of lists and dicts -/
def mname : Mid → Str
  | .append => "append"
  | .extend => "extend"
  | .pop => "pop"
  | .popAt => "pop"
  | .clear => "clear"
  | .reverse => "reverse"
  | .get1 => "get"
  | .get2 => "get"
  | .setd => "setdefault"
  | .pop2 => "pop"
def rkN : Rk → String
  | .l => "list"
  | .d => "dict"
  | .s => "str"
theorem rk_is {pins : List (Addr × Obj)} {σ : L2.St} {s : Shared} {m : List Addr} {H : Hp} {h : PH} {v : V} {d : D} {k : Rk} {u : Value} (I : Inv X pins σ H s) (ru : RelV v u) (hr : HR G m h H) (va : VD G m H v d) (e : rkOf h d = some k) :
    s.TypeIs u (rkN k) ∧ ∀ a, u = .ref a → ∃ ob, s.heap.get? a = some ob ∧ ob.dict = none := by
  have go : ∀ {T : String}, T = rkN k → tyV X.K T v H → s.TypeIs u (rkN k) ∧ ∀ a, u = .ref a → ∃ ob, s.heap.get? a = some ob ∧ ob.dict = none := fun eT q => by subst eT; exact tyV_is I ru q
  cases va with
  | str x => cases e; exact go rfl rfl
  | @ref a l hl =>
    have e' : (match h[l]? with
      | some (.lst _) => some Rk.l
      | some (.dct _) => some Rk.d
      | some (.tdc _) => some Rk.d
      | _ => none) = some k := e
    split at e'
    · rename_i ds eo
      cases e'
      obtain ⟨vs, h1, h2⟩ := hr.of hl eo
      exact go rfl (.inl ⟨rfl, _, .inl (.inl h1)⟩)
    · rename_i ds eo
      cases e'
      obtain ⟨vs, h1, h2⟩ := hr.of hl eo
      exact go rfl (.inr (.inr (.inl ⟨rfl, .inl ⟨_, h1⟩⟩)))
    · rename_i ds eo
      cases e'
      obtain ⟨vs, h1, h2⟩ := hr.of hl eo
      obtain ⟨⟨o, es, ep, k1, k2, k3, k4⟩, _⟩ := (show ObjOk X.prog X.w H s.heap a (.ext _) from I.hok a _ h1)
      cases (show u = Value.ref a from ru)
      exact ⟨⟨o, k1, k2.1⟩, fun b q => by cases q; exact ⟨o, k1, k2.2.1⟩⟩
    · cases e'
  | _ => cases e
/-- a method by values -/
def rM (G : Gm) (f : D → List D → PH → Res D) : V → List V → Hp → VK → Prop := fun x xs H Q => ∃ m a as h, HR G m h H ∧ VD G m H x a ∧ VDs G m H xs as ∧ post G (fun _ _ _ _ => False) [] m H Q (f a as h)
theorem upd_post {m : List Addr} {H : Hp} {h : PH} {Q : VK} {W : WX} {σ : L2.St} {l : Nat} {a : Addr} {o o' : O} {u : HO} {v : V} {d : D} (hr : HR G m h H) (hl : m[l]? = some a) (eo : h[l]? = some o) (hw : Wr H a) (hp : post G W σ m H Q (.ok d (h.set l o')))
    (ho : Ext G.K m H m (upd H a u) → OR G m (upd H a u) a o') (hv : VD G m H v d) : Q v (upd H a u) := by
  have e : Ext G.K m H m (upd H a u) := ext_upd hw (List.mem_of_getElem? hl)
  exact hp m v _ e (hr.put hl eo hw (ho e)) (hv.mono e)
theorem append_ok : MtR X "list.append" (rM G (met .append .l)) := by
  intro pins s σ H x xs v us Q I rx rs hq
  obtain ⟨m, a, as, h, hr, va, vs, hp⟩ := hq
  cases va with
  | @ref p l hl =>
    have hp' : post G (fun _ _ _ _ => False) [] m H Q (metL .append l as h) := hp
    unfold metL at hp'
    split at hp'
    all_goals first
      | (rename_i e; cases e; done)
      | skip
    · rename_i d _
      obtain ⟨w, rfl, hw⟩ := vd1 vs
      split at hp'
      · rename_i ds eo
        split at hp'
        · rename_i hlt
          obtain ⟨ws, h1, h2⟩ := hr.of hl eo
          refine mt_append pins s σ H _ _ v us Q I rx rs ⟨p, ws, w, rfl, rfl, h1, by rw [h2.len, ← mx_eq]; exact hlt, ?_⟩
          exact upd_post hr hl eo (wr_lst h1) hp' (fun e => ⟨_, upd_same, (h2.mono e).append (.cons (hw.mono e) .nil)⟩) .non
        · exact hp'.elim
      · exact hp'.elim
    all_goals exact hp'.elim
  | _ => exact hp.elim
theorem extend_ok : MtR X "list.extend" (rM G (met .extend .l)) := by
  intro pins s σ H x xs v us Q I rx rs hq
  obtain ⟨m, a, as, h, hr, va, vs, hp⟩ := hq
  cases va with
  | @ref p l hl =>
    have hp' : post G (fun _ _ _ _ => False) [] m H Q (metL .extend l as h) := hp
    unfold metL at hp'
    split at hp'
    all_goals first
      | (rename_i e; cases e; done)
      | skip
    · obtain ⟨w, rfl, hw⟩ := vd1 vs
      cases hw with
      | @ref p2 l2 hl2 =>
        split at hp'
        · rename_i ds es eo eo2
          split at hp'
          · rename_i hlt
            obtain ⟨ws, h1, h2⟩ := hr.of hl eo
            obtain ⟨zs, h3, h4⟩ := hr.of hl2 eo2
            refine mt_extend pins s σ H _ _ v us Q I rx rs ⟨p, p2, ws, zs, rfl, rfl, h1, h3, by rw [h2.len, h4.len, ← mx_eq]; exact hlt, ?_⟩
            exact upd_post hr hl eo (wr_lst h1) hp' (fun e => ⟨_, upd_same, (h2.mono e).append (h4.mono e)⟩) .non
          · exact hp'.elim
        · exact hp'.elim
    all_goals exact hp'.elim
  | _ => exact hp.elim
theorem pop_ok : MtR X "list.pop" (rM G (met .pop .l)) := by
  intro pins s σ H x xs v us Q I rx rs hq
  obtain ⟨m, a, as, h, hr, va, vs, hp⟩ := hq
  cases va with
  | @ref p l hl =>
    have hp' : post G (fun _ _ _ _ => False) [] m H Q (metL .pop l as h) := hp
    unfold metL at hp'
    split at hp'
    all_goals first
      | (rename_i e; cases e; done)
      | skip
    · cases vs
      split at hp'
      · rename_i ds eo
        split at hp'
        · rename_i d hd
          obtain ⟨ws, h1, h2⟩ := hr.of hl eo
          rw [← h2.len] at hd
          obtain ⟨w, hw, hwd⟩ := h2.get hd
          refine mt_pop pins s σ H _ _ v us Q I rx rs ⟨p, ws, w, rfl, rfl, h1, hw, ?_⟩
          exact upd_post hr hl eo (wr_lst h1) hp' (fun e => ⟨_, upd_same, (h2.mono e).dropLast⟩) hwd
        · exact hp'.elim
      · exact hp'.elim
    all_goals exact hp'.elim
  | _ => exact hp.elim
theorem place_seq {n : Nat} {i : Int} {j : Nat} (e : place n i = some j) : seqIndex? i n = some j ∧ j < n ∧ -(n : Int) ≤ i ∧ i < n := ixN_seq (by rw [← place_ix]; exact e)
theorem popAt_ok : MtR X "list.pop" (rM G (met .popAt .l)) := by
  intro pins s σ H x xs v us Q I rx rs hq
  obtain ⟨m, a, as, h, hr, va, vs, hp⟩ := hq
  cases va with
  | @ref p l hl =>
    have hp' : post G (fun _ _ _ _ => False) [] m H Q (metL .popAt l as h) := hp
    unfold metL at hp'
    split at hp'
    all_goals first
      | (rename_i e; cases e; done)
      | skip
    · obtain ⟨z, rfl, hz⟩ := vd1 vs
      cases hz
      split at hp'
      · rename_i ds eo
        split at hp'
        · rename_i j hj
          split at hp'
          · rename_i d hd
            obtain ⟨ws, h1, h2⟩ := hr.of hl eo
            obtain ⟨hmx, _⟩ : ws.length ≤ sizeLine ∧ True := ⟨(show ObjOk X.prog X.w H s.heap p (.lst ws) from I.hok p _ h1).1, trivial⟩
            have hln := line63
            obtain ⟨q1, q2, q3, q4⟩ := place_seq hj
            obtain ⟨w, hw, hwd⟩ := h2.get hd
            have hlen := h2.len
            refine mt_popAt pins s σ H _ _ v us Q I rx rs ⟨p, ws, _, j, w, rfl, rfl, h1, by omega, by omega, by rw [hlen]; exact q1, hw, ?_⟩
            exact upd_post hr hl eo (wr_lst h1) hp' (fun e => ⟨_, upd_same, (h2.mono e).erase j⟩) hwd
          · exact hp'.elim
        · exact hp'.elim
      · exact hp'.elim
    all_goals exact hp'.elim
  | _ => exact hp.elim
theorem clearL_ok : MtR X "list.clear" (rM G (met .clear .l)) := by
  intro pins s σ H x xs v us Q I rx rs hq
  obtain ⟨m, a, as, h, hr, va, vs, hp⟩ := hq
  cases va with
  | @ref p l hl =>
    have hp' : post G (fun _ _ _ _ => False) [] m H Q (metL .clear l as h) := hp
    unfold metL at hp'
    split at hp'
    all_goals first
      | (rename_i e; cases e; done)
      | skip
    · cases vs
      split at hp'
      · rename_i ds eo
        obtain ⟨ws, h1, h2⟩ := hr.of hl eo
        refine mt_clear pins s σ H _ _ v us Q I rx rs ⟨p, ws, rfl, rfl, h1, ?_⟩
        exact upd_post hr hl eo (wr_lst h1) hp' (fun e => ⟨_, upd_same, .nil⟩) .non
      · exact hp'.elim
    all_goals exact hp'.elim
  | _ => exact hp.elim
theorem reverse_ok : MtR X "list.reverse" (rM G (met .reverse .l)) := by
  intro pins s σ H x xs v us Q I rx rs hq
  obtain ⟨m, a, as, h, hr, va, vs, hp⟩ := hq
  cases va with
  | @ref p l hl =>
    have hp' : post G (fun _ _ _ _ => False) [] m H Q (metL .reverse l as h) := hp
    unfold metL at hp'
    split at hp'
    all_goals first
      | (rename_i e; cases e; done)
      | skip
    · cases vs
      split at hp'
      · rename_i ds eo
        obtain ⟨ws, h1, h2⟩ := hr.of hl eo
        refine mt_reverse pins s σ H _ _ v us Q I rx rs ⟨p, ws, rfl, rfl, h1, ?_⟩
        exact upd_post hr hl eo (wr_lst h1) hp' (fun e => ⟨_, upd_same, (h2.mono e).reverse⟩) .non
      · exact hp'.elim
    all_goals exact hp'.elim
  | _ => exact hp.elim
theorem clearD_ok (hK : X.K = G.K) (hP : X.prog = G.P) (hw : X.w = G.w) : MtR X "dict.clear" (rM G (met .clear .d)) := by
  intro pins s σ H x xs v us Q I rx rs hq
  obtain ⟨m, a, as, h, hr, va, vs, hp⟩ := hq
  cases va with
  | @ref p l hl =>
    have hp' : post G (fun _ _ _ _ => False) [] m H Q (metD .clear l as h) := hp
    unfold metD at hp'
    split at hp'
    all_goals first
      | (rename_i e; cases e; done)
      | skip
    · cases vs
      cases rs
      cases (show v = Value.ref p from rx)
      split at hp'
      · rename_i ds eo
        obtain ⟨ws, h1, h2⟩ := hr.of hl eo
        exact d_clear I h1 fun s' I' => ⟨.non, _, I', rfl, upd_post hr hl eo (wr_dK h1) hp' (fun e => ⟨_, upd_same, .nil⟩) .non⟩
      · rename_i ds eo
        obtain ⟨ws, h1, h2, h3, h4, h5⟩ := hr.of hl eo
        have dd := td_of I hK hP hw h1 h2 h3
        refine clear_keyed (knd := nestedKind X.prog X.w) (kvs := pairsH ws) ⟨ws, dd, rfl⟩ (fun h' dd' hs => ?_) (by rw [pairsH_length]; exact h4)
        obtain ⟨ys, dd', e0⟩ := dd'
        have : ys = [] := by
          have := congrArg List.length e0
          rw [pairsH_length] at this
          exact List.length_eq_zero_iff.mp this
        subst this
        exact ⟨.non, _, td_new (t' := s.toks) I hP hw (by rw [h1]; exact True.intro) dd' hs, rfl, upd_post hr hl eo (wr_ext h1) hp' (fun e => ⟨[], upd_same, .nil, List.nodup_nil, Nat.zero_le _, h5⟩) .non⟩
      · exact hp'.elim
    all_goals exact hp'.elim
  | _ => exact hp.elim
theorem look_get {m : List Addr} {H : Hp} {ks : List (Key × V)} {kvs : List (D × D)} (j : Key) {x : V} {d : D} (hk : KVD G m H ks kvs) (hx : VD G m H x d) : VD G m H ((valV ks j).getD x) ((look (keyD j) kvs).getD d) := by
  rcases look_of j hk with ⟨h1, h2⟩ | ⟨v, d', h1, h2, h3⟩
  · rw [h1, h2]; exact hx
  · rw [h1, h2]; exact h3
theorem get1_ok (hK : X.K = G.K) (hP : X.prog = G.P) (hw : X.w = G.w) (hu : X.A.units + 65 < cLine) : MtR X "dict.get" (rM G (met .get1 .d)) := by
  intro pins s σ H x xs v us Q I rx rs hq
  obtain ⟨m, a, as, h, hr, va, vs, hp⟩ := hq
  cases va with
  | @ref p l hl =>
    have hp' : post G (fun _ _ _ _ => False) [] m H Q (metD .get1 l as h) := hp
    unfold metD at hp'
    split at hp'
    all_goals first
      | (rename_i e; cases e; done)
      | skip
    · obtain ⟨z, rfl, hz⟩ := vd1 vs
      split at hp'
      · rename_i o eo
        obtain ⟨u, rfl, ru⟩ := vals1 rs
        rcases dget_cases hr (.ref hl) hz eo with ⟨p', l', ks, kvs, j, e1, e2, hl', eo', hH, hk, rfl, hb, rfl⟩ | ⟨p', l', ys, kvs, k, e1, e2, hl', t, eo', hb, rfl⟩
        · cases e1; cases e2
          cases (show v = Value.ref p from rx)
          exact d_get1 (A := X.A) (by omega) I (DGet.k (k := j) hH) ru fun w' s' I' rw' => ⟨_, H, I', rw', hp' m _ H .refl hr (look_get j hk .non)⟩
        · cases e1; cases e2
          cases (show v = Value.ref p from rx)
          obtain ⟨ka, rfl, rfl, kis⟩ := key_is I hK hb hz ru
          obtain ⟨dd, hd⟩ := t.of I hK hP hw
          obtain ⟨rfl, _, _⟩ := keyT_ok hb
          refine call_meetsIn PySem.F.slot_dict_get dd.typeIs PySem.F.entry_dict_get (PySem.F.args_dict_get_2 _ _) (meetsH_dict_get (nestedKind X.prog X.w) p ka hd) ⟨nroom hu, _, ys, kis, dd, ?_⟩
          rcases tvd_look hb t.tvd with ⟨q1, q2⟩ | ⟨p', v', d', q1, q2, q3, q4⟩
          · rw [q1]
            rw [q2] at hp'
            exact ⟨.non, H, I.tok _, rfl, hp' m _ H .refl hr .non⟩
          · rw [q1]
            rw [q2] at hp'
            exact ⟨v', H, I.tok _, q3, hp' m _ H .refl hr q4⟩
      · exact hp'.elim
    all_goals exact hp'.elim
  | _ => exact hp.elim
theorem get2_ok (hK : X.K = G.K) (hP : X.prog = G.P) (hw : X.w = G.w) (hu : X.A.units + 65 < cLine) : MtR X "dict.get" (rM G (met .get2 .d)) := by
  intro pins s σ H x xs v us Q I rx rs hq
  obtain ⟨m, a, as, h, hr, va, vs, hp⟩ := hq
  cases va with
  | @ref p l hl =>
    have hp' : post G (fun _ _ _ _ => False) [] m H Q (metD .get2 l as h) := hp
    unfold metD at hp'
    split at hp'
    all_goals first
      | (rename_i e; cases e; done)
      | skip
    · obtain ⟨z, y, rfl, hz, hy⟩ := vd2 vs
      split at hp'
      · rename_i o eo
        obtain ⟨u, w, rfl, ru, rw⟩ := vals2 rs
        rcases dget_cases hr (.ref hl) hz eo with ⟨p', l', ks, kvs, j, e1, e2, hl', eo', hH, hk, rfl, hb, rfl⟩ | ⟨p', l', ys, kvs, k, e1, e2, hl', t, eo', hb, rfl⟩
        · cases e1; cases e2
          cases (show v = Value.ref p from rx)
          exact d_get2 (A := X.A) (by omega) I (DGet.k (k := j) hH) ru rw fun w' s' I' rw' => ⟨_, H, I', rw', hp' m _ H .refl hr (look_get j hk hy)⟩
        · cases e1; cases e2
          cases (show v = Value.ref p from rx)
          obtain ⟨ka, rfl, rfl, kis⟩ := key_is I hK hb hz ru
          obtain ⟨dd, hd⟩ := t.of I hK hP hw
          obtain ⟨rfl, _, _⟩ := keyT_ok hb
          refine call_meetsIn PySem.F.slot_dict_get dd.typeIs PySem.F.entry_dict_get (PySem.F.args_dict_get_3 _ _ _) (meetsH_dict_get_default (nestedKind X.prog X.w) p ka hd w) ⟨nroom hu, _, ys, kis, dd, ?_⟩
          rcases tvd_look hb t.tvd with ⟨q1, q2⟩ | ⟨p', v', d', q1, q2, q3, q4⟩
          · rw [q1]
            rw [q2] at hp'
            exact ⟨_, H, I.tok _, rw, hp' m _ H .refl hr hy⟩
          · rw [q1]
            rw [q2] at hp'
            exact ⟨v', H, I.tok _, q3, hp' m _ H .refl hr q4⟩
      · exact hp'.elim
    all_goals exact hp'.elim
  | _ => exact hp.elim
/-- a store into a dict, as the run has it -/
theorem dput_cases {m : List Addr} {H : Hp} {h h' : PH} (hr : HR G m h H) {p : Addr} {l : Nat} {i v : D} (hl : m[l]? = some p) (e : dput h l i v = some h') :
    (∃ ks kvs k, h[l]? = some (.dct kvs) ∧ H p = some (.dK ks) ∧ KVD G m H ks kvs ∧ keyOf i = some k ∧ kvs.length < mx ∧ h' = h.set l (.dct (put k v kvs))) ∨
    ∃ xs kvs k o, h[l]? = some o ∧ TdAt G m H p xs kvs ∧ keyT i = some k ∧ kvs.length < mx ∧ h' = h.set l (.tdc (put k v kvs)) := by
  unfold dput at e
  split at e
  · rename_i kvs eo
    obtain ⟨ks, h1, h2⟩ := hr.of hl eo
    split at e
    · rename_i k hk
      split at e
      · rename_i hz
        cases e
        exact .inl ⟨ks, kvs, k, eo, h1, h2, hk, hz, rfl⟩
      · cases e
    · split at e
      · rename_i k hk
        cases e
        cases h2
        exact .inr ⟨[], [], k, _, eo, .inr ⟨h1, rfl, rfl⟩, hk, by decide, rfl⟩
      · cases e
  · rename_i kvs eo
    split at e
    · rename_i k hk
      split at e
      · rename_i hz
        cases e
        obtain ⟨xs, h1⟩ := hr.of hl eo
        exact .inr ⟨xs, kvs, k, _, eo, .inl h1, hk, hz, rfl⟩
      · cases e
    · cases e
  · cases e
theorem dput_eval {h h' : PH} {l : Nat} {kvs : List (D × D)} {i k v : D} (eo : h[l]? = some (.tdc kvs) ∨ (h[l]? = some (.dct []) ∧ kvs = [])) (hk : keyT i = some k) (e : dput h l i v = some h') : (∃ o, h[l]? = some o) ∧ kvs.length < mx ∧ h' = h.set l (.tdc (put k v kvs)) := by
  obtain ⟨rfl, _, ds, rfl⟩ := keyT_ok hk
  unfold dput at e
  rcases eo with q | ⟨q, rfl⟩
  · rw [q] at e
    simp only [hk] at e
    split at e
    · rename_i hz
      cases e
      exact ⟨⟨_, q⟩, hz, rfl⟩
    · cases e
  · rw [q] at e
    simp only [keyOf, hk] at e
    cases e
    exact ⟨⟨_, q⟩, by decide, rfl⟩
theorem kvd_len {m : List Addr} {H : Hp} : ∀ {ks : List (Key × V)} {kvs : List (D × D)}, KVD G m H ks kvs → ks.length = kvs.length
  | _, _, .nil => rfl
  | _, _, .cons _ r => by rw [List.length_cons, List.length_cons, kvd_len r]
/-- the relation behind a store of a tuple key -/
theorem td_put {pins : List (Addr × Obj)} {σ : L2.St} {s : Shared} {m : List Addr} {H : Hp} {h : PH} (I : Inv X pins σ H s) (hr : HR G m h H) (hK : X.K = G.K) (hP : X.prog = G.P) (hw : X.w = G.w) {p ka : Addr} {l : Nat} {k d : D} {v : V} {u : Value} {o : O} {xs : List (NestedKey × Addr × Value)} {kvs : List (D × D)} (hl : m[l]? = some p) (eo : h[l]? = some o) (t : TdAt G m H p xs kvs)
    (hk : keyT k = some k) (va : VD G m H (.ref ka) k) (rv : RelV v u) (vd : VD G m H v d) (hz : kvs.length < mx) {h' : Heap} {t' : Nat} (dd' : h'.DictOfH (nestedKind X.prog X.w) p (storedH xs (nk k) ka u)) (hs : Heap.SameBut p s.heap h') :
    ∃ H', Inv X pins σ H' { s with heap := h', toks := t' } ∧ Ext G.K m H m H' ∧ HR G m (h.set l (.tdc (put k d kvs))) H' := by
  obtain ⟨mu, wr⟩ := t.mut
  obtain ⟨_, hd⟩ := t.of I hK hP hw
  have e : Ext G.K m H m (upd H p (.ext (KDx G.P G.w p (storedH xs (nk k) ka u)))) := ext_upd wr (List.mem_of_getElem? hl)
  refine ⟨_, td_new I hP hw mu dd' hs, e, hr.put hl eo wr ⟨_, upd_same, (tvd_put hk va rv vd t.tvd).mono e, ?_, ?_, hd⟩⟩
  · obtain ⟨_, _, _, _, _, _, _, _, nd⟩ := dd'
    exact nd
  · have := stored_len xs (nk k) ka u
    have := tvd_len t.tvd
    rw [← mx_eq]
    omega
theorem kvd_any {m : List Addr} {H : Hp} {j : Key} : ∀ {ks : List (Key × V)} {kvs : List (D × D)}, KVD G m H ks kvs → (ks.any fun kv => decide (kv.1 = j)) = kvs.any fun kv => decide (kv.1 = keyD j)
  | _, _, .nil => rfl
  | _, _, .cons (k := k) x r => by
    rw [List.any_cons, List.any_cons, kvd_any r]
    have e : decide (k = j) = decide (keyD k = keyD j) := by
      by_cases z : k = j
      · subst z; simp
      · rw [decide_eq_false z, decide_eq_false fun q => z (keyD_inj q)]
    rw [e]
theorem kvd_map {m : List Addr} {H : Hp} {j : Key} {w : V} {e : D} (hw : VD G m H w e) : ∀ {ks : List (Key × V)} {kvs : List (D × D)}, KVD G m H ks kvs → KVD G m H (ks.map fun kv => if kv.1 = j then (kv.1, w) else kv) (kvs.map fun kv => if kv.1 = keyD j then (kv.1, e) else kv)
  | _, _, .nil => .nil
  | _, _, .cons (k := k) x r => by
    rw [List.map_cons, List.map_cons]
    by_cases z : k = j
    · subst z
      rw [if_pos rfl, if_pos rfl]
      exact .cons hw (kvd_map hw r)
    · rw [if_neg z, if_neg fun q => z (keyD_inj q)]
      exact .cons x (kvd_map hw r)
theorem kvd_snoc {m : List Addr} {H : Hp} {j : Key} {w : V} {e : D} (hw : VD G m H w e) : ∀ {ks : List (Key × V)} {kvs : List (D × D)}, KVD G m H ks kvs → KVD G m H (ks ++ [(j, w)]) (kvs ++ [(keyD j, e)])
  | _, _, .nil => .cons hw .nil
  | _, _, .cons x r => .cons x (kvd_snoc hw r)
theorem kvd_put {m : List Addr} {H : Hp} {j : Key} {w : V} {e : D} (hw : VD G m H w e) {ks : List (Key × V)} {kvs : List (D × D)} (hk : KVD G m H ks kvs) : KVD G m H (putK ks j w) (put (keyD j) e kvs) := by
  unfold putK put
  rw [kvd_any hk]
  split
  · exact kvd_map hw hk
  · exact kvd_snoc hw hk
theorem kvd_drop {m : List Addr} {H : Hp} {j : Key} : ∀ {ks : List (Key × V)} {kvs : List (D × D)}, KVD G m H ks kvs → KVD G m H (dropK ks j) (drop (keyD j) kvs)
  | _, _, .nil => .nil
  | _, _, .cons (k := k) (v := v) (d := d) (r := r) (s := s) x c => by
    have ih := kvd_drop (j := j) c
    unfold dropK drop at ih ⊢
    by_cases z : k = j
    · subst z
      rw [List.filter_cons_of_neg (by simp), List.filter_cons_of_neg (by simp)]
      exact ih
    · have z' : ¬ keyD k = keyD j := fun q => z (keyD_inj q)
      rw [List.filter_cons_of_pos (by simp [z]), List.filter_cons_of_pos (by simp [z'])]
      exact .cons x ih
/-- d[k] = v, the run -/
theorem dp_setItem {pins : List (Addr × Obj)} {σ : L2.St} {s : Shared} {m : List Addr} {H : Hp} {h h' : PH} {E : Value → Shared → Prop} (hK : X.K = G.K) (hP : X.prog = G.P) (hw : X.w = G.w) (hu : X.A.units + 65 < cLine) (I : Inv X pins σ H s) (hr : HR G m h H) {p : Addr} {l : Nat} {i d : D} {x v : V} {ui u : Value} {Q : Unit → Shared → Prop} (hl : m[l]? = some p) (vi : VD G m H x i) (vd : VD G m H v d) (ri : RelV x ui) (rv : RelV v u)
    (e : dput h l i d = some h') (hQ : ∀ H' s', Inv X pins σ H' s' → Ext G.K m H m H' → HR G m h' H' → Q () s') : wpAny (model X.prog X.w) X.A (setItem (.ref p) ui u) Q E s := by
  rcases dput_cases hr hl e with ⟨ks, kvs, k, eo, hH, hk, hi, hz, rfl⟩ | ⟨xs, kvs, k, o, eo, t, hi, hz, rfl⟩
  · obtain ⟨j, rfl, rfl⟩ := key_of vi hi
    have e : Ext G.K m H m (upd H p (.dK (putK ks j v))) := ext_upd (wr_dK hH) (List.mem_of_getElem? hl)
    exact d_setItem (A := X.A) (by omega) I (DPut.k (k := j) hH (by rw [kvd_len hk, ← mx_eq]; exact hz)) ri rv fun s' I' => hQ _ s' I' e (hr.put hl eo (wr_dK hH) ⟨_, upd_same, kvd_put (vd.mono e) (hk.mono e)⟩)
  · obtain ⟨ka, rfl, rfl, kis⟩ := key_is I hK hi vi ri
    obtain ⟨dd, hd⟩ := t.of I hK hP hw
    obtain ⟨rfl, _, _⟩ := keyT_ok hi
    refine wpAny_setItem_heap (hsz := t.size) (nroom hu) kis dd fun h2 dd' hs => ?_
    obtain ⟨H', I', e', hr'⟩ := td_put (t' := s.toks + (nestedKind X.prog X.w).draws (nk k)) I hr hK hP hw hl eo t hi vi rv vd hz dd' hs
    exact hQ H' _ I' e' hr'
theorem setd_ok (hK : X.K = G.K) (hP : X.prog = G.P) (hw : X.w = G.w) (hu : X.A.units + 65 < cLine) : MtR X "dict.setdefault" (rM G (met .setd .d)) := by
  intro pins s σ H x xs v us Q I rx rs hq
  obtain ⟨m, a, as, h, hr, va, vs, hp⟩ := hq
  cases va with
  | @ref p l hl =>
    have hp' : post G (fun _ _ _ _ => False) [] m H Q (metD .setd l as h) := hp
    unfold metD at hp'
    split at hp'
    all_goals first
      | (rename_i e; cases e; done)
      | skip
    · obtain ⟨z, y, rfl, hz, hy⟩ := vd2 vs
      obtain ⟨u, w, rfl, ru, rw⟩ := vals2 rs
      cases (show v = Value.ref p from rx)
      split at hp'
      · rename_i d h3 eo ep
        rcases dget_cases hr (.ref hl) hz eo with ⟨p', l', ks, kvs, j, e1, e2, hl', eo', hH, hk, rfl, hb, e3⟩ | ⟨p', l', ys, kvs, k, e1, e2, hl', t, eo', hb, e3⟩
        · cases e1; cases e2
          rcases look_of j hk with ⟨q1, q2⟩ | ⟨w1, w2, q1, q2, q3⟩
          · rw [q2] at e3; cases e3
          · rw [q2] at e3
            cases e3
            have hlt : ks.length < sizeLine := by
              rcases dput_cases hr hl ep with ⟨ks', kvs', k', eo2, hH2, hk2, hi, hz2, _⟩ | ⟨ys, kvs', k', o, eo2, t, hi, hz2, _⟩
              · rw [hH] at hH2; cases hH2
                rw [kvd_len hk2, ← mx_eq]; exact hz2
              · rcases t with ⟨q, _⟩ | ⟨q, _⟩ <;> rw [hH] at q <;> cases q
                rw [sizeLine_eq]; decide
            exact d_setd (d := y) I hH ru rw hlt (fun v0 q0 w' s' I' rw' => by rw [q1] at q0; cases q0; exact ⟨_, H, I', rw', hp' m _ H .refl hr q3⟩) (fun q0 => by rw [q1] at q0; cases q0)
        · cases e1; cases e2
          obtain ⟨ka, rfl, rfl, kis⟩ := key_is I hK hb hz ru
          obtain ⟨dd, hd⟩ := t.of I hK hP hw
          obtain ⟨rfl, _, _⟩ := keyT_ok hb
          rcases tvd_look hb t.tvd with ⟨q1, q2⟩ | ⟨p', v', d', q1, q2, q3, q4⟩
          · rw [q2] at e3; cases e3
          · rw [q2] at e3
            cases e3
            exact call_setdefault_heap (hsz := t.size) (nroom hu) kis hd dd (fun p0 hp0 => by rw [q1] at hp0; cases hp0; exact ⟨v', H, I.tok _, q3, hp' m _ H .refl hr q4⟩) (fun hn => by rw [q1] at hn; cases hn)
      · rename_i h3 eo ep
        rcases dget_cases hr (.ref hl) hz eo with ⟨p', l', ks, kvs, j, e1, e2, hl', eo', hH, hk, rfl, hb, e3⟩ | ⟨p', l', ys, kvs, k, e1, e2, hl', t, eo', hb, e3⟩
        · cases e1; cases e2
          rcases look_of j hk with ⟨q1, q2⟩ | ⟨w1, w2, q1, q2, q3⟩
          · rcases dput_cases hr hl ep with ⟨ks', kvs', k', eo2, hH2, hk2, hi, hz2, rfl⟩ | ⟨ys, kvs', k', o, eo2, t, hi, hz2, _⟩
            · rw [hH] at hH2; cases hH2
              rw [hb] at hi; cases hi
              have e : Ext G.K m H m (upd H p (.dK (putK ks j y))) := ext_upd (wr_dK hH) (List.mem_of_getElem? hl)
              exact d_setd (d := y) I hH ru rw (by rw [kvd_len hk2, ← mx_eq]; exact hz2) (fun v0 q0 => by rw [q1] at q0; cases q0) (fun _ w' s' I' rw' => ⟨_, _, I', rw', hp' m _ _ e (hr.put hl eo2 (wr_dK hH) ⟨_, upd_same, kvd_put (hy.mono e) (hk2.mono e)⟩) (hy.mono e)⟩)
            · obtain ⟨_, _, ds, rfl⟩ := keyT_ok hi
              cases hb
          · rw [q2] at e3; cases e3
        · cases e1; cases e2
          obtain ⟨ka, rfl, rfl, kis⟩ := key_is I hK hb hz ru
          obtain ⟨dd, hd⟩ := t.of I hK hP hw
          obtain ⟨rfl, _, _⟩ := keyT_ok hb
          obtain ⟨⟨o, eo2⟩, hz2, rfl⟩ := dput_eval eo' hb ep
          rcases tvd_look hb t.tvd with ⟨q1, q2⟩ | ⟨p', v', d', q1, q2, q3, q4⟩
          · refine call_setdefault_heap (hsz := t.size) (nroom hu) kis hd dd (fun p0 hp0 => by rw [q1] at hp0; cases hp0) (fun hn h2 dd' hs => ?_)
            obtain ⟨H', I', e', hr'⟩ := td_put (t' := s.toks + (nestedKind X.prog X.w).draws (nk k)) I hr hK hP hw hl eo2 t hb hz rw hy hz2 dd' hs
            exact ⟨y, H', I', rw, hp' m _ H' e' hr' (hy.mono e')⟩
          · rw [q2] at e3; cases e3
      · exact hp'.elim
    all_goals exact hp'.elim
  | _ => exact hp.elim
/-- a key is dropped, the run -/
theorem ddrop_eval {h h' : PH} {l : Nat} {kvs : List (D × D)} {i k : D} (eo : h[l]? = some (.tdc kvs)) (hk : keyT i = some k) (e : ddrop h l i = some h') : h' = h.set l (.tdc (drop k kvs)) := by
  unfold ddrop at e
  rw [eo] at e
  simp only [hk] at e
  cases e
  rfl
theorem dp_pop {pins : List (Addr × Obj)} {σ : L2.St} {s : Shared} {m : List Addr} {H : Hp} {h h' : PH} {E : Value → Shared → Prop} (hK : X.K = G.K) (hP : X.prog = G.P) (hw : X.w = G.w) (hu : X.A.units + 65 < cLine) (I : Inv X pins σ H s) (hr : HR G m h H) {p : Addr} {l : Nat} {i d : D} {x : V} {ui : Value} {more : List Value} {Q : Value → Shared → Prop} (hl : m[l]? = some p) (vi : VD G m H x i) (ri : RelV x ui)
    (hm : more = [] ∨ ∃ x, more = [x]) (eg : dget h (.ref l) i = some (some d)) (e : ddrop h l i = some h') (hQ : ∀ H' w u s', Inv X pins σ H' s' → Ext G.K m H m H' → HR G m h' H' → RelV w u → VD G m H' w d → Q u s') : wpAny (model X.prog X.w) X.A (call (.builtin "dict.pop") (.ref p :: ui :: more)) Q E s := by
  rcases dget_cases hr (.ref hl) vi eg with ⟨p', l', ks, kvs, j, e1, e2, hl', eo', hH, hk, rfl, hb, e3⟩ | ⟨p', l', ys, kvs, k, e1, e2, hl', t, eo', hb, e3⟩
  · cases e1; cases e2
    rcases look_of j hk with ⟨q1, q2⟩ | ⟨w1, w2, q1, q2, q3⟩
    · rw [q2] at e3; cases e3
    · rw [q2] at e3
      cases e3
      have eh : h' = h.set l (.dct (drop (keyD j) kvs)) := by
        unfold ddrop at e
        rw [eo'] at e
        simp only [hb] at e
        cases e; rfl
      subst eh
      have ex : Ext G.K m H m (upd H p (.dK (dropK ks j))) := ext_upd (wr_dK hH) (List.mem_of_getElem? hl)
      exact d_pop I hH ri q1 hm fun w' s' I' rw' => hQ _ _ w' s' I' ex (hr.put hl eo' (wr_dK hH) ⟨_, upd_same, (kvd_drop hk).mono ex⟩) rw' (q3.mono ex)
  · cases e1; cases e2
    obtain ⟨ka, rfl, rfl, kis⟩ := key_is I hK hb vi ri
    obtain ⟨dd, hd⟩ := t.of I hK hP hw
    obtain ⟨rfl, _, _⟩ := keyT_ok hb
    rcases tvd_look hb t.tvd with ⟨q1, q2⟩ | ⟨p', v', d', q1, q2, q3, q4⟩
    · rw [q2] at e3; cases e3
    · rw [q2] at e3
      cases e3
      rcases eo' with eo' | ⟨_, rfl⟩
      · have eh := ddrop_eval eo' hb e
        subst eh
        obtain ⟨mu, wr⟩ := t.mut
        have ha : argsOk "dict.pop" ⟨.ref p :: .ref ka :: more, []⟩ := by
          rcases hm with q | ⟨x, q⟩
          · subst q; exact PySem.F.args_dict_pop_2 _ _
          · subst q; exact PySem.F.args_dict_pop_3 _ _ _
        refine call_pop_heap (hsz := t.size) hm ha (nroom hu) kis hd dd q1 fun h2 dd' hs => ?_
        have ex : Ext G.K m H m (upd H p (.ext (KDx G.P G.w p (withoutH ys (nk k))))) := ext_upd wr (List.mem_of_getElem? hl)
        refine hQ _ v' _ _ (td_new (t' := s.toks + (nestedKind X.prog X.w).draws (nk k)) I hP hw mu dd' hs) ex (hr.put hl eo' wr ⟨_, upd_same, (tvd_drop hb t.tvd).mono ex, ?_, Nat.le_trans (withoutH_length _ _) t.size, hd⟩) q3 (q4.mono ex)
        obtain ⟨_, _, _, _, _, _, _, _, nd⟩ := dd'
        exact nd
      · cases q2
theorem dpop_ok (hK : X.K = G.K) (hP : X.prog = G.P) (hw : X.w = G.w) (hu : X.A.units + 65 < cLine) : MtR X "dict.pop" (rM G (met .popAt .d)) := by
  intro pins s σ H x xs v us Q I rx rs hq
  obtain ⟨m, a, as, h, hr, va, vs, hp⟩ := hq
  cases va with
  | @ref p l hl =>
    have hp' : post G (fun _ _ _ _ => False) [] m H Q (metD .popAt l as h) := hp
    unfold metD at hp'
    split at hp'
    all_goals first
      | (rename_i e; cases e; done)
      | skip
    · obtain ⟨z, rfl, hz⟩ := vd1 vs
      obtain ⟨u, rfl, ru⟩ := vals1 rs
      cases (show v = Value.ref p from rx)
      split at hp'
      · rename_i d eo
        split at hp'
        · rename_i h3 ed
          exact dp_pop hK hP hw hu I hr hl hz ru (.inl rfl) eo ed fun H' w u' s' I' ex hr' rw' vd => ⟨w, H', I', rw', hp' m _ H' ex hr' vd⟩
        · exact hp'.elim
      · exact hp'.elim
    all_goals exact hp'.elim
  | _ => exact hp.elim
theorem dpop2_ok (hK : X.K = G.K) (hP : X.prog = G.P) (hw : X.w = G.w) (hu : X.A.units + 65 < cLine) : MtR X "dict.pop" (rM G (met .pop2 .d)) := by
  intro pins s σ H x xs v us Q I rx rs hq
  obtain ⟨m, a, as, h, hr, va, vs, hp⟩ := hq
  cases va with
  | @ref p l hl =>
    have hp' : post G (fun _ _ _ _ => False) [] m H Q (metD .pop2 l as h) := hp
    unfold metD at hp'
    split at hp'
    all_goals first
      | (rename_i e; cases e; done)
      | skip
    · obtain ⟨z, y, rfl, hz, hy⟩ := vd2 vs
      obtain ⟨u, w, rfl, ru, rw⟩ := vals2 rs
      cases (show v = Value.ref p from rx)
      split at hp'
      · rename_i d eo
        split at hp'
        · rename_i h3 ed
          exact dp_pop hK hP hw hu I hr hl hz ru (.inr ⟨w, rfl⟩) eo ed fun H' w u' s' I' ex hr' rw' vd => ⟨w, H', I', rw', hp' m _ H' ex hr' vd⟩
        · exact hp'.elim
      · rename_i eo
        rcases dget_cases hr (.ref hl) hz eo with ⟨p', l', ks, kvs, j, e1, e2, hl', eo', hH, hk, rfl, hb, e3⟩ | ⟨p', l', ys, kvs, k, e1, e2, hl', t, eo', hb, e3⟩
        · cases e1; cases e2
          rcases look_of j hk with ⟨q1, q2⟩ | ⟨w1, w2, q1, q2, q3⟩
          · exact d_popD I hH ru q1 fun s' I' => ⟨_, H, I', rw, hp' m _ H .refl hr hy⟩
          · rw [q2] at e3; cases e3
        · cases e1; cases e2
          obtain ⟨ka, rfl, rfl, kis⟩ := key_is I hK hb hz ru
          obtain ⟨dd, hd⟩ := t.of I hK hP hw
          obtain ⟨rfl, _, _⟩ := keyT_ok hb
          rcases tvd_look hb t.tvd with ⟨q1, q2⟩ | ⟨p', v', d', q1, q2, q3, q4⟩
          · exact call_pop_default_heap (hsz := t.size) (nroom hu) kis hd dd q1 fun tk => ⟨_, H, I.tok _, rw, hp' m _ H .refl hr hy⟩
          · rw [q2] at e3; cases e3
      · exact hp'.elim
    all_goals exact hp'.elim
  | _ => exact hp.elim
end
end Mp

set_option Elab.async false
set_option linter.all false
set_option maxRecDepth 100000
set_option maxHeartbeats 1000000
/-! C5: a rule for each form of expression. -/
namespace Mp
open PySem PySem.Spec PyProof.Rows L2
section
variable {G : Gm} {W : WX} {F : Fns} {m m' : List Addr} {H H' : Hp} {h h' : PH} {σ : L2.St} {ρ : Env} {Q : VK}
theorem post_imp {Q' : VK} {r : Res D} (p : post G W σ m H Q r) (i : ∀ v H, Q v H → Q' v H) : post G W σ m H Q' r := by
  cases r with
  | ok d h' => exact fun m2 v H2 e hr vd => i _ _ (p m2 v H2 e hr vd)
  | exc c h' => exact p
  | stk => exact p
theorem posts_imp {Q Q' : List V → Hp → Prop} {r : Res (List D)} (p : posts G W σ m H Q r) (i : ∀ v H, Q v H → Q' v H) : posts G W σ m H Q' r := by
  cases r with
  | ok d h' => exact fun m2 v H2 e hr vd => i _ _ (p m2 v H2 e hr vd)
  | exc c h' => exact p
  | stk => exact p
/-- the end, where the value is there already -/
theorem post_now {v : V} {d : D} (hr : HR G m h H) (vd : VD G m H v d) (p : post G W σ m H Q (.ok d h)) : Q v H := p m v H .refl hr vd
theorem quiet_bin {o : Bop} {a b : D} {c : Nat} : binop o a b h ≠ .exc c h' := by
  intro e
  unfold binop at e
  split at e
  all_goals first
    | (cases e; done)
    | (split at e <;> first | (cases e; done) | (split at e <;> first | (cases e; done) | (simp [newL] at e)))
theorem quiet_bool {o : Option Bool} {c : Nat} : bool? o h ≠ .exc c h' := by
  intro e
  cases o <;> cases e
theorem quiet_cmp {o : Cop} {a b : D} {c : Nat} : cmpop o a b h ≠ .exc c h' := by
  intro e
  unfold cmpop at e
  split at e
  all_goals first
    | (cases e; done)
    | (exact quiet_bool e)
theorem bl_bool {o : Option Bool} {d : D} (e : bool? o h = .ok d h') : ∃ k, d = .bl k := by
  cases o with
  | none => cases e
  | some b => cases e; exact ⟨b, rfl⟩
theorem bl_cmp {o : Cop} {a b d : D} (e : cmpop o a b h = .ok d h') : ∃ k, d = .bl k := by
  unfold cmpop at e
  split at e
  all_goals first
    | (exact bl_bool e)
    | (cases e; done)
    | (cases e; exact ⟨_, rfl⟩)
theorem quiet_ix {a b : D} {c : Nat} : ixop a b h ≠ .exc c h' := by
  intro e
  unfold ixop at e
  split at e
  · cases e
  · cases e
  split at e
  · split at e
    · split at e
      · split at e
        · split at e <;> cases e
        · cases e
      · cases e
    · split at e
      · split at e <;> cases e
      · cases e
  · cases e
theorem quiet_sl {a : D} {lo hi : Option Int} {c : Nat} : slop a lo hi h ≠ .exc c h' := by
  intro e
  unfold slop at e
  split at e
  · cases e
  · split at e
    · simp [newL] at e
    · cases e
theorem quiet_bfn {b : Bif} {xs : List D} {c : Nat} : bfn b xs h ≠ .exc c h' := by
  intro e
  unfold bfn at e
  split at e
  all_goals first
    | (cases e; done)
    | (exact quiet_bool e)
    | (split at e <;> first | (cases e; done) | (simp [newL] at e; done) | (split at e <;> first | (cases e; done) | (split at e <;> cases e; done) | (simp [newL] at e)))
theorem quiet_met {o : Mid} {k : Rk} {a : D} {xs : List D} {c : Nat} : met o k a xs h ≠ .exc c h' := by
  intro e
  unfold met at e
  split at e
  · unfold metL at e
    split at e
    all_goals first
      | (cases e; done)
      | (split at e <;> first | (cases e; done) | (split at e <;> first | (cases e; done) | (split at e <;> cases e; done)))
  · unfold metD at e
    split at e
    all_goals first
      | (cases e; done)
      | (split at e <;> first | (cases e; done) | (split at e <;> cases e; done))
  · cases e
theorem quiet_fld {F : Fns} {a : D} {f : Str} {c : Nat} : fldop F a f h ≠ .exc c h' := by
  intro e
  unfold fldop at e
  split at e
  · split at e
    · split at e <;> cases e
    · cases e
  · cases e

/-- two values, then an operation -/
theorem tE_two {f : D → D → PH → Res D} {a b : Ex} {e : Ex} (he : ∀ ρ h, evE F e ρ h = (evE F a ρ h).bind fun x h => (evE F b ρ h).bind fun y h => f x y h) (hq : ∀ x y h c h', f x y h ≠ .exc c h')
    (hp : tE G W F e σ H Q) : tOp (rB G f) (tE G W F a) (tE G W F b) σ H Q := by
  obtain ⟨m, ρ, h, hr, er, hp⟩ := hp
  rw [he] at hp
  refine ⟨m, ρ, h, hr, er, post_imp (post_bind hp) fun v H1 ⟨m1, d1, h1, e1, hr1, vd1, hp1⟩ => ?_⟩
  refine ⟨m1, ρ, h1, hr1, er.mono e1, post_imp (post_bind hp1) fun u H2 ⟨m2, d2, h2, e2, hr2, vd2, hp2⟩ => ?_⟩
  exact ⟨m2, d1, d2, h2, hr2, vd1.mono e2, vd2, post_quiet (fun c h' => hq _ _ _ _ _) hp2⟩
end

section
variable {G : Gm} {W : WX} {F : Fns} {X : Cx} {e a b c : Expr} {e' a' b' c' : Ex} {pos : Pos}
theorem r_stk : PE X e (tE G W F .stk) := ⟨fun pins s σ H Q I ⟨m, ρ, h, hr, er, hp⟩ => hp.elim⟩
theorem r_var {i : Nat} {x : Str} (hN : X.N[i]? = some x) (hv : Vis X.env.scope x) (hd : (x == ("__debug__" : Str)) = false) (hcd : (x == ("__classdict__" : Str)) = false) : PE X (.Name x pos) (tE G W F (.var i)) := by
  refine (pe_var (i := i) hN hv hd hcd).weaken fun σ H Q ⟨m, ρ, h, hr, er, hp⟩ => ?_
  have hp' : post G W σ m H Q (match ρ[i]? with
    | some (some d) => .ok d h
    | _ => .stk) := hp
  split at hp'
  · rename_i d hd
    obtain ⟨v, h1, h2⟩ := er.2 i d hd
    exact ⟨v, h1, post_now hr h2 hp'⟩
  · exact hp'.elim
/-- a constant of the text -/
theorem r_cst {v : V} {d : D} (hp : PE X e (tC v)) (hv : ∀ m H, VD G m H v d) : PE X e (tE G W F (.cst d)) :=
  hp.weaken fun σ H Q ⟨m, ρ, h, hr, er, hp⟩ => post_now hr (hv m H) hp
theorem r_bin {o : Bop} (hK : X.K = G.K) (ha : PE X a (tE G W F a')) (hb : PE X b (tE G W F b')) : PE X (.BinOp a (match o with | .add => .Add | .sub => .Sub | .mul => .Mult | .fdiv => .FloorDiv | .mod => .Mod | .pow => .Pow) b pos) (tE G W F (.bin o a' b')) :=
  (pe_op (op_bin hK o) ha hb).weaken fun σ H Q hp => tE_two (fun _ _ => rfl) (fun _ _ _ _ _ => quiet_bin) hp
theorem r_neg (ha : PE X a (tE G W F a')) : PE X (.UnaryOp .USub a pos) (tE G W F (.neg a')) := by
  refine (pe_un un_neg ha).weaken fun σ H Q ⟨m, ρ, h, hr, er, hp⟩ => ?_
  refine ⟨m, ρ, h, hr, er, post_imp (post_bind hp) fun v H1 ⟨m1, d1, h1, e1, hr1, vd1, hp1⟩ => ?_⟩
  cases d1 with
  | int i =>
    cases vd1
    exact ⟨i, rfl, post_now hr1 (.int _) hp1⟩
  | _ => exact hp1.elim
theorem r_ix (hK : X.K = G.K) (hP : X.prog = G.P) (hw : X.w = G.w) (hu : X.A.units + 65 < cLine) (ha : PE X a (tE G W F a')) (hb : PE X b (tE G W F b')) (hs : PlainIx b) : PE X (.Subscript a b pos) (tE G W F (.ix a' b')) :=
  (pe_ix (ix_all hK hP hw hu) ha hb hs).weaken fun σ H Q hp => tE_two (fun _ _ => rfl) (fun _ _ _ _ _ => quiet_ix) hp
/-- behind anything that hands on a plain thing -/
def postR (G : Gm) (W : WX) (σ : L2.St) (m : List Addr) (H : Hp) {α : Type} (Q : α → Hp → Prop) : Res α → Prop
  | .ok a h' => ∀ m' H', Ext G.K m H m' H' → HR G m' h' H' → Q a H'
  | .exc c h' => ∀ m' H', Ext G.K m H m' H' → HR G m' h' H' → W (G.xa c) none σ H'
  | .stk => False
theorem postR_ext {α : Type} {m m' : List Addr} {H H' : Hp} {σ : L2.St} {Q : α → Hp → Prop} {r : Res α} (e : Ext G.K m H m' H') (p : postR G W σ m H Q r) : postR G W σ m' H' Q r := by
  cases r with
  | ok d h' => exact fun m2 H2 e2 => p m2 H2 (e.trans e2)
  | exc c h' => exact fun m2 H2 e2 => p m2 H2 (e.trans e2)
  | stk => exact p
theorem post_bindR {α : Type} {m : List Addr} {H : Hp} {σ : L2.St} {Q : VK} {r : Res α} {f : α → PH → Res D} (p : post G W σ m H Q (r.bind f)) :
    postR G W σ m H (fun a H1 => ∃ m1 h1, Ext G.K m H m1 H1 ∧ HR G m1 h1 H1 ∧ post G W σ m1 H1 Q (f a h1)) r := by
  cases r with
  | ok d h' => exact fun m1 H1 e hr => ⟨m1, h', e, hr, post_ext e p⟩
  | exc c h' => exact p
  | stk => exact p
theorem postR_bind {α : Type} {m : List Addr} {H : Hp} {σ : L2.St} {Q : α → Hp → Prop} {r : Res D} {f : D → PH → Res α} (p : postR G W σ m H Q (r.bind f)) :
    post G W σ m H (fun v H1 => ∃ m1 d h1, Ext G.K m H m1 H1 ∧ HR G m1 h1 H1 ∧ VD G m1 H1 v d ∧ postR G W σ m1 H1 Q (f d h1)) r := by
  cases r with
  | ok d h' => exact fun m1 v H1 e hr vd => ⟨m1, d, h', e, hr, vd, postR_ext e p⟩
  | exc c h' => exact p
  | stk => exact p
theorem postR_imp {α : Type} {m : List Addr} {H : Hp} {σ : L2.St} {Q Q' : α → Hp → Prop} {r : Res α} (p : postR G W σ m H Q r) (i : ∀ v H, Q v H → Q' v H) : postR G W σ m H Q' r := by
  cases r with
  | ok d h' => exact fun m2 H2 e hr => i _ _ (p m2 H2 e hr)
  | exc c h' => exact p
  | stk => exact p
/-- an end of a slice -/
def tO (G : Gm) (W : WX) (F : Fns) (o : Opt) : TO := fun σ H Q => ∃ m ρ h, HR G m h H ∧ ER G m H σ ρ ∧ postR G W σ m H Q (evO F o ρ h)
theorem _root_.L2.PO.weaken {X : Cx} {e : Option Expr} {t t' : TO} (p : PO X e t) (h : ∀ σ H Q, t' σ H Q → t σ H Q) : PO X e t' := ⟨fun pins s σ H Q I q => p.run pins s σ H Q I (h σ H Q q)⟩
theorem ro_none : PO X none (tO G W F .no) := (po_none (X := X)).weaken fun σ H Q ⟨m, ρ, h, hr, er, hp⟩ => hp m H .refl hr
theorem ro_some (ha : PE X a (tE G W F a')) : PO X (some a) (tO G W F (.yes a')) := (po_some ha).weaken fun σ H Q ⟨m, ρ, h, hr, er, hp⟩ => by
  refine ⟨m, ρ, h, hr, er, post_imp (postR_bind hp) fun v H1 ⟨m1, d1, h1, e1, hr1, vd1, hp1⟩ => ?_⟩
  cases d1 with
  | int j => cases vd1; exact ⟨j, rfl, hp1 m1 H1 .refl hr1⟩
  | _ => exact hp1.elim
theorem r_sl {lo hi : Option Expr} {lo' hi' : Opt} {p2 : Pos} (hK : X.K = G.K) (ha : PE X a (tE G W F a')) (hl : PO X lo (tO G W F lo')) (hh : PO X hi (tO G W F hi')) : PE X (.Subscript a (.Slice lo hi none p2) pos) (tE G W F (.sl a' lo' hi')) := by
  refine (pe_slice (sl_all hK) ha hl hh).weaken fun σ H Q ⟨m, ρ, h, hr, er, hp⟩ => ?_
  refine ⟨m, ρ, h, hr, er, post_imp (post_bind hp) fun v H1 ⟨m1, d1, h1, e1, hr1, vd1, hp1⟩ => ?_⟩
  refine ⟨m1, ρ, h1, hr1, er.mono e1, postR_imp (post_bindR hp1) fun l H2 ⟨m2, h2, e2, hr2, hp2⟩ => ?_⟩
  refine ⟨m2, ρ, h2, hr2, er.mono (e1.trans e2), postR_imp (post_bindR hp2) fun u H3 ⟨m3, h3, e3, hr3, hp3⟩ => ?_⟩
  exact ⟨m3, d1, h3, hr3, vd1.mono (e2.trans e3), post_quiet (fun c h' => quiet_sl) hp3⟩

/-! ### arguments, displays -/
theorem ra_nil : PA X [] (tEs G W F .nil) := (pa_nil (X := X)).weaken fun σ H Q ⟨m, ρ, h, hr, er, hp⟩ => hp m [] H .refl hr .nil
theorem ra_cons {es : List Expr} {es' : Exs} (ha : PE X a (tE G W F a')) (hr : PA X es (tEs G W F es')) (hs : starEach (a :: es) X.env = (false, eval a X.env) :: starEach es X.env) : PA X (a :: es) (tEs G W F (.cons a' es')) := by
  refine (pa_cons ha hr hs).weaken fun σ H Q ⟨m, ρ, h, hr, er, hp⟩ => ?_
  refine ⟨m, ρ, h, hr, er, post_imp (posts_bind hp) fun v H1 ⟨m1, d1, h1, e1, hr1, vd1, hp1⟩ => ?_⟩
  refine ⟨m1, ρ, h1, hr1, er.mono e1, posts_imp (posts_binds hp1) fun vs H2 ⟨m2, d2, h2, e2, hr2, vd2, hp2⟩ => ?_⟩
  exact hp2 m2 (v :: vs) H2 .refl hr2 (.cons (vd1.mono e2) vd2)
theorem r_tup {es : List Expr} {es' : Exs} {x1 : Nat} (ha : PA X es (tEs G W F es')) : PE X (.Tuple es x1 pos) (tE G W F (.tup es')) := by
  refine (pe_tup ha).weaken fun σ H Q ⟨m, ρ, h, hr, er, hp⟩ => ?_
  refine ⟨m, ρ, h, hr, er, posts_imp (post_binds hp) fun vs H1 ⟨m1, d1, h1, e1, hr1, vd1, hp1⟩ => ?_⟩
  split at hp1
  · rename_i hl
    exact ⟨by rw [vd1.len, ← mx_eq]; exact hl, tup_ok hr1 vd1 hp1⟩
  · exact hp1.elim
theorem r_lst {es : List Expr} {es' : Exs} (ha : PA X es (tEs G W F es')) : PE X (.List es pos) (tE G W F (.lst es')) := by
  refine (pe_lst ha).weaken fun σ H Q ⟨m, ρ, h, hr, er, hp⟩ => ?_
  refine ⟨m, ρ, h, hr, er, posts_imp (post_binds hp) fun vs H1 ⟨m1, d1, h1, e1, hr1, vd1, hp1⟩ => ?_⟩
  split at hp1
  · rename_i hl
    exact ⟨by rw [vd1.len, ← mx_eq]; exact hl, newL_ok hr1 vd1 hp1⟩
  · exact hp1.elim
theorem r_dct0 : PE X (.Dict [] [] pos) (tE G W F (.dct .nil .nil)) := by
  refine (pe_dnewK (X := X)).weaken fun σ H Q ⟨m, ρ, h, hr, er, hp⟩ => fun p hn => ?_
  have e : Ext G.K m H (m ++ [p]) (upd H p (.dK [])) := ext_new hn
  refine hp (m ++ [p]) (.ref p) _ e (hr.new hn ⟨[], upd_same, .nil⟩) (.ref ?_)
  rw [← hr.len, List.getElem?_append_right (Nat.le_refl _)]
  simp

/-! ### comparisons -/
theorem r_cmp {o : Cop} {op : CmpOp} (ho : OpR X (compareOp op) (rB G (cmpop o))) (ha : PE X a (tE G W F a')) (hb : PE X b (tE G W F b')) (hm : behindInMarks op b = false) : PE X (.Compare a [op] [b] pos) (tE G W F (.cmp o a' b')) :=
  (pe_cmpR ho ha hb hm).weaken fun σ H Q hp => tE_two (fun _ _ => rfl) (fun _ _ _ _ _ => quiet_cmp) hp
/-- a test's reading -/
def tT (G : Gm) (W : WX) (F : Fns) (e : Ex) : TT := fun σ H Q => ∃ m ρ h, HR G m h H ∧ ER G m H σ ρ ∧ postR G W σ m H Q (evB F e ρ h)
theorem rt_stk : PT X e (tT G W F .stk) := ⟨fun pins s σ H Q I ⟨m, ρ, h, hr, er, hp⟩ => hp.elim⟩
theorem tT_two {f : D → D → PH → Res D} {σ : L2.St} {H : Hp} {Q : Bool → Hp → Prop} {e : Ex} (he : ∀ ρ h, evE F e ρ h = (evE F a' ρ h).bind fun x h => (evE F b' ρ h).bind fun y h => f x y h) (hq : ∀ x y h c h', f x y h ≠ .exc c h') (hb : ∀ x y h d h', f x y h = .ok d h' → ∃ k, d = .bl k)
    (hp : tT G W F e σ H Q) : tTest (tOp (rB G f) (tE G W F a') (tE G W F b')) σ H Q := by
  obtain ⟨m, ρ, h, hr, er, hp⟩ := hp
  unfold evB at hp
  rw [he] at hp
  have e0 : ∀ (r : Res D) (g : D → PH → Res D) (k : D → PH → Res Bool), (r.bind g).bind k = r.bind fun x h => (g x h).bind k := fun r g k => by cases r <;> rfl
  rw [e0] at hp
  refine ⟨m, ρ, h, hr, er, post_imp (postR_bind hp) fun v H1 ⟨m1, d1, h1, e1, hr1, vd1, hp1⟩ => ?_⟩
  rw [e0] at hp1
  refine ⟨m1, ρ, h1, hr1, er.mono e1, post_imp (postR_bind hp1) fun u H2 ⟨m2, d2, h2, e2, hr2, vd2, hp2⟩ => ?_⟩
  refine ⟨m2, d1, d2, h2, hr2, vd1.mono e2, vd2, ?_⟩
  cases q : f d1 d2 h2 with
  | stk => rw [q] at hp2; exact hp2
  | exc c h' => exact absurd q (hq _ _ _ _ _)
  | ok d h' =>
    rw [q] at hp2
    obtain ⟨k, rfl⟩ := hb _ _ _ _ _ q
    intro m' w H' e' hr' vd'
    cases vd'
    exact ⟨k, rfl, hp2 m' H' e' hr'⟩
theorem rt_cmp {o : Cop} {op : CmpOp} (ho : OpR X (compareOp op) (rB G (cmpop o))) (ha : PE X a (tE G W F a')) (hb : PE X b (tE G W F b')) (hm : behindInMarks op b = false) : PT X (.Compare a [op] [b] pos) (tT G W F (.cmp o a' b')) :=
  (pt_cmpR ho ha hb hm).weaken fun σ H Q hp => tT_two (fun _ _ => rfl) (fun _ _ _ _ _ => quiet_cmp) (fun _ _ _ _ _ => bl_cmp) hp
/-- a test by its value's truth -/
theorem rt_val (hK : X.K = G.K) (ha : PE X a (tE G W F a')) (he : ∀ whole, isTrue a X.env whole = (do let v ← whole; standAt a.pos; holding [v] (truthy v))) : PT X a (tT G W F a') := by
  refine (pt_truth ha he).weaken fun σ H Q ⟨m, ρ, h, hr, er, hp⟩ => ?_
  refine ⟨m, ρ, h, hr, er, post_imp (postR_bind hp) fun v H1 ⟨m1, d1, h1, e1, hr1, vd1, hp1⟩ => ?_⟩
  split at hp1
  · rename_i b hb
    exact ⟨b, tru_of hK hr1 vd1 hb, hp1 m1 H1 .refl hr1⟩
  · exact hp1.elim
/-- comparisons with None, True, False -/
theorem r_isc {o : Cop} {op : CmpOp} {y : V} {d : D} (ho : OpR X (compareOp op) (fun x z H Q => z = y ∧ rB G (cmpop o) x z H Q)) (ha : PE X a (tE G W F a')) (hb : PE X b (tC y)) (hy : ∀ m H, VD G m H y d) (hm : behindInMarks op b = false) : PE X (.Compare a [op] [b] pos) (tE G W F (.cmp o a' (.cst d))) := by
  refine (pe_cmpR ho ha hb hm).weaken fun σ H Q ⟨m, ρ, h, hr, er, hp⟩ => ?_
  refine ⟨m, ρ, h, hr, er, post_imp (post_bind hp) fun v H1 ⟨m1, d1, h1, e1, hr1, vd1, hp1⟩ => ?_⟩
  exact ⟨rfl, m1, d1, d, h1, hr1, vd1, hy m1 H1, post_quiet (fun _ _ => quiet_cmp) hp1⟩
theorem rt_isc {o : Cop} {op : CmpOp} {y : V} {d : D} (ho : OpR X (compareOp op) (fun x z H Q => z = y ∧ rB G (cmpop o) x z H Q)) (ha : PE X a (tE G W F a')) (hb : PE X b (tC y)) (hy : ∀ m H, VD G m H y d) (hm : behindInMarks op b = false) : PT X (.Compare a [op] [b] pos) (tT G W F (.cmp o a' (.cst d))) := by
  refine (pt_cmpR ho ha hb hm).weaken fun σ H Q hp => ?_
  obtain ⟨m, ρ, h, hr, er, hp⟩ := hp
  have e0 : ∀ (r : Res D) (g : D → PH → Res D) (k : D → PH → Res Bool), (r.bind g).bind k = r.bind fun x h => (g x h).bind k := fun r g k => by cases r <;> rfl
  have hp' : postR G W σ m H Q (((evE F a' ρ h).bind fun x h => cmpop o x d h).bind fun x h => match tru h x with
    | some b => .ok b h
    | none => .stk) := hp
  rw [e0] at hp'
  refine ⟨m, ρ, h, hr, er, post_imp (postR_bind hp') fun v H1 ⟨m1, d1, h1, e1, hr1, vd1, hp1⟩ => ?_⟩
  refine ⟨rfl, m1, d1, d, h1, hr1, vd1, hy m1 H1, ?_⟩
  cases q : cmpop o d1 d h1 with
  | stk => rw [q] at hp1; exact hp1
  | exc c h' => exact absurd q quiet_cmp
  | ok z h' =>
    rw [q] at hp1
    obtain ⟨k, rfl⟩ := bl_cmp q
    intro m' w H' e' hr' vd'
    cases vd'
    exact ⟨k, rfl, hp1 m' H' e' hr'⟩
theorem chain_imp {o p : Cop} {σ : L2.St} {H : Hp} {Q : V → Hp → Prop} (hp : tE G W F (.chain o p a' b' c') σ H Q) : tChain (rB G (cmpop o)) (rB G (cmpop p)) (tE G W F a') (tE G W F b') (tE G W F c') σ H Q := by
  obtain ⟨m, ρ, h, hr, er, hp⟩ := hp
  refine ⟨m, ρ, h, hr, er, post_imp (post_bind hp) fun v H1 ⟨m1, d1, h1, e1, hr1, vd1, hp1⟩ => ?_⟩
  refine ⟨m1, ρ, h1, hr1, er.mono e1, post_imp (post_bind hp1) fun u H2 ⟨m2, d2, h2, e2, hr2, vd2, hp2⟩ => ?_⟩
  refine ⟨m2, d1, d2, h2, hr2, vd1.mono e2, vd2, ?_⟩
  cases q : cmpop o d1 d2 h2 with
  | stk => rw [q] at hp2; exact hp2
  | exc c h' => exact absurd q quiet_cmp
  | ok d h' =>
    rw [q] at hp2
    obtain ⟨k, rfl⟩ := bl_cmp q
    intro m' w H' e' hr' vd'
    cases vd'
    refine ⟨k, rfl, ?_⟩
    cases k with
    | false => exact hp2 m' _ H' e' hr' (.bl false)
    | true =>
      have hp3 := post_ext e' hp2
      have hp3' : post G W σ m' H' Q ((evE F c' ρ h').bind fun z h => cmpop p d2 z h) := hp3
      refine ⟨m', ρ, h', hr', er.mono (e1.trans (e2.trans e')), post_imp (post_bind hp3') fun w H3 ⟨m3, d3, h3, e3, hr3, vd3, hp4⟩ => ?_⟩
      exact ⟨m3, d2, d3, h3, hr3, vd2.mono (e'.trans e3), vd3, post_quiet (fun _ _ => quiet_cmp) hp4⟩

theorem r_chain {o p : Cop} {op op2 : CmpOp} (ho : OpR X (compareOp op) (rB G (cmpop o))) (ho2 : OpR X (compareOp op2) (rB G (cmpop p))) (ha : PE X a (tE G W F a')) (hb : PE X b (tE G W F b')) (hc : PE X c (tE G W F c')) (hm : behindInMarks op2 c = false) :
    PE X (.Compare a [op, op2] [b, c] pos) (tE G W F (.chain o p a' b' c')) := (pe_chain ho ho2 ha hb hc hm).weaken fun σ H Q hp => chain_imp hp
theorem bl_chain {o p : Cop} {d : D} {ρ : Env} (e : evE F (.chain o p a' b' c') ρ h = .ok d h') : ∃ k, d = .bl k := by
  have e2 : ((evE F a' ρ h).bind fun x h => (evE F b' ρ h).bind fun y h => (cmpop o x y h).bind fun r h => match r with
    | .bl true => (evE F c' ρ h).bind fun z h => cmpop p y z h
    | .bl false => .ok (.bl false) h
    | _ => .stk) = .ok d h' := e
  cases q1 : evE F a' ρ h with
  | stk => rw [q1] at e2; cases e2
  | exc c h1 => rw [q1] at e2; cases e2
  | ok x h1 =>
    rw [q1] at e2
    dsimp only [Res.bind] at e2
    cases q2 : evE F b' ρ h1 with
    | stk => rw [q2] at e2; cases e2
    | exc c h2 => rw [q2] at e2; cases e2
    | ok y h2 =>
      rw [q2] at e2
      dsimp only [Res.bind] at e2
      cases q3 : cmpop o x y h2 with
      | stk => rw [q3] at e2; cases e2
      | exc c h3 => rw [q3] at e2; cases e2
      | ok r h3 =>
        rw [q3] at e2
        dsimp only [Res.bind] at e2
        obtain ⟨k, rfl⟩ := bl_cmp q3
        cases k with
        | false => cases e2; exact ⟨_, rfl⟩
        | true =>
          dsimp only at e2
          cases q4 : evE F c' ρ h3 with
          | stk => rw [q4] at e2; cases e2
          | exc c h2 => rw [q4] at e2; cases e2
          | ok z h4 =>
            rw [q4] at e2
            exact bl_cmp e2
theorem tT_E {e : Ex} {σ : L2.St} {H : Hp} {Q : Bool → Hp → Prop} (hb : ∀ {ρ h d h'}, evE F e ρ h = .ok d h' → ∃ k, d = .bl k) (hp : tT G W F e σ H Q) : tE G W F e σ H (fun x H' => ∃ k, x = .bl k ∧ Q k H') := by
  obtain ⟨m, ρ, h, hr, er, hp⟩ := hp
  refine ⟨m, ρ, h, hr, er, ?_⟩
  unfold evB at hp
  cases q : evE F e ρ h with
  | stk => rw [q] at hp; exact hp
  | exc c h' => rw [q] at hp; exact hp
  | ok d h' =>
    rw [q] at hp
    obtain ⟨k, rfl⟩ := hb q
    intro m' w H' e' hr' vd'
    cases vd'
    exact ⟨k, rfl, hp m' H' e' hr'⟩
theorem rt_chain {o p : Cop} {op op2 : CmpOp} (ho : OpR X (compareOp op) (rB G (cmpop o))) (ho2 : OpR X (compareOp op2) (rB G (cmpop p))) (ha : PE X a (tE G W F a')) (hb : PE X b (tE G W F b')) (hc : PE X c (tE G W F c')) (hm : behindInMarks op2 c = false) :
    PT X (.Compare a [op, op2] [b, c] pos) (tT G W F (.chain o p a' b' c')) := (pt_chain ho ho2 ha hb hc hm).weaken fun σ H Q hp => chain_imp (tT_E (fun e => bl_chain e) hp)
/-! ### and, or, not, if -/
theorem r_and {rest : List Expr} (hK : X.K = G.K) (ha : PE X a (tE G W F a')) (hb : PE X (.BoolOp .And (b :: rest) pos) (tE G W F b')) : PE X (.BoolOp .And (a :: b :: rest) pos) (tE G W F (.and a' b')) := by
  refine (pe_andT ha hb).weaken fun σ H Q ⟨m, ρ, h, hr, er, hp⟩ => ?_
  refine ⟨m, ρ, h, hr, er, post_imp (post_bind hp) fun v H1 ⟨m1, d1, h1, e1, hr1, vd1, hp1⟩ => ?_⟩
  split at hp1
  · rename_i q
    exact ⟨true, tru_of hK hr1 vd1 q, by rw [if_pos rfl]; exact ⟨m1, ρ, h1, hr1, er.mono e1, hp1⟩⟩
  · rename_i q
    exact ⟨false, tru_of hK hr1 vd1 q, by rw [if_neg Bool.false_ne_true]; exact post_now hr1 vd1 hp1⟩
  · exact hp1.elim
theorem r_or {rest : List Expr} (hK : X.K = G.K) (ha : PE X a (tE G W F a')) (hb : PE X (.BoolOp .Or (b :: rest) pos) (tE G W F b')) : PE X (.BoolOp .Or (a :: b :: rest) pos) (tE G W F (.or a' b')) := by
  refine (pe_orT ha hb).weaken fun σ H Q ⟨m, ρ, h, hr, er, hp⟩ => ?_
  refine ⟨m, ρ, h, hr, er, post_imp (post_bind hp) fun v H1 ⟨m1, d1, h1, e1, hr1, vd1, hp1⟩ => ?_⟩
  split at hp1
  · rename_i q
    exact ⟨true, tru_of hK hr1 vd1 q, by rw [if_pos rfl]; exact post_now hr1 vd1 hp1⟩
  · rename_i q
    exact ⟨false, tru_of hK hr1 vd1 q, by rw [if_neg Bool.false_ne_true]; exact ⟨m1, ρ, h1, hr1, er.mono e1, hp1⟩⟩
  · exact hp1.elim
theorem r_not (hK : X.K = G.K) (ha : PE X a (tE G W F a')) : PE X (.UnaryOp .Not a pos) (tE G W F (.not a')) := by
  refine (pe_notT ha).weaken fun σ H Q ⟨m, ρ, h, hr, er, hp⟩ => ?_
  refine ⟨m, ρ, h, hr, er, post_imp (post_bind hp) fun v H1 ⟨m1, d1, h1, e1, hr1, vd1, hp1⟩ => ?_⟩
  split at hp1
  · rename_i q
    exact ⟨_, tru_of hK hr1 vd1 q, post_now hr1 (.bl _) hp1⟩
  · exact hp1.elim
theorem evB_and (ρ : Env) (h : PH) : evB F (.and a' b') ρ h = (evB F a' ρ h).bind fun k h => if k = true then evB F b' ρ h else .ok false h := by
  show ((evE F a' ρ h).bind fun x h => match tru h x with
    | some true => evE F b' ρ h
    | some false => .ok x h
    | none => .stk).bind _ = _
  unfold evB
  cases evE F a' ρ h with
  | stk => rfl
  | exc c h' => rfl
  | ok d h' =>
    simp only [Res.bind]
    cases q : tru h' d with
    | none => rfl
    | some k => cases k <;> simp [q]
theorem evB_or (ρ : Env) (h : PH) : evB F (.or a' b') ρ h = (evB F a' ρ h).bind fun k h => if k = true then .ok true h else evB F b' ρ h := by
  show ((evE F a' ρ h).bind fun x h => match tru h x with
    | some true => .ok x h
    | some false => evE F b' ρ h
    | none => .stk).bind _ = _
  unfold evB
  cases evE F a' ρ h with
  | stk => rfl
  | exc c h' => rfl
  | ok d h' =>
    simp only [Res.bind]
    cases q : tru h' d with
    | none => rfl
    | some k => cases k <;> simp [q]
theorem evB_not (ρ : Env) (h : PH) : evB F (.not a') ρ h = (evB F a' ρ h).bind fun k h => .ok (!k) h := by
  show ((evE F a' ρ h).bind fun x h => match tru h x with
    | some b => .ok (D.bl (!b)) h
    | none => .stk).bind _ = _
  unfold evB
  cases evE F a' ρ h with
  | stk => rfl
  | exc c h' => rfl
  | ok d h' =>
    simp only [Res.bind]
    cases q : tru h' d <;> rfl
theorem evB_ite (ρ : Env) (h : PH) : evB F (.ite c' a' b') ρ h = (evB F c' ρ h).bind fun k h => if k = true then evB F a' ρ h else evB F b' ρ h := by
  show ((evE F c' ρ h).bind fun x h => match tru h x with
    | some true => evE F a' ρ h
    | some false => evE F b' ρ h
    | none => .stk).bind _ = _
  unfold evB
  cases evE F c' ρ h with
  | stk => rfl
  | exc c h' => rfl
  | ok d h' =>
    simp only [Res.bind]
    cases q : tru h' d with
    | none => rfl
    | some k => cases k <;> rfl
theorem evE_ite (ρ : Env) (h : PH) : evE F (.ite c' a' b') ρ h = (evB F c' ρ h).bind fun k h => if k = true then evE F a' ρ h else evE F b' ρ h := by
  show ((evE F c' ρ h).bind fun x h => match tru h x with
    | some true => evE F a' ρ h
    | some false => evE F b' ρ h
    | none => .stk) = _
  unfold evB
  cases evE F c' ρ h with
  | stk => rfl
  | exc c h' => rfl
  | ok d h' =>
    simp only [Res.bind]
    cases q : tru h' d with
    | none => rfl
    | some k => cases k <;> rfl
theorem postR_bindR {α β : Type} {m : List Addr} {H : Hp} {σ : L2.St} {Q : β → Hp → Prop} {r : Res α} {f : α → PH → Res β} (p : postR G W σ m H Q (r.bind f)) :
    postR G W σ m H (fun a H1 => ∃ m1 h1, Ext G.K m H m1 H1 ∧ HR G m1 h1 H1 ∧ postR G W σ m1 H1 Q (f a h1)) r := by
  cases r with
  | ok d h' => exact fun m1 H1 e hr => ⟨m1, h', e, hr, postR_ext e p⟩
  | exc c h' => exact p
  | stk => exact p
theorem rt_and {rest : List Expr} (ha : PT X a (tT G W F a')) (hb : PW X (.BoolOp .And (b :: rest) pos) (tT G W F b')) : PW X (.BoolOp .And (a :: b :: rest) pos) (tT G W F (.and a' b')) := by
  refine ⟨fun wh pins s σ H Q I hp => (pw_and ha hb).run wh pins s σ H Q I ?_⟩
  obtain ⟨m, ρ, h, hr, er, hp⟩ := hp
  rw [evB_and] at hp
  refine ⟨m, ρ, h, hr, er, postR_imp (postR_bindR hp) fun k H1 ⟨m1, h1, e1, hr1, hp1⟩ => ?_⟩
  cases k with
  | true => rw [if_pos rfl] at hp1 ⊢; exact ⟨m1, ρ, h1, hr1, er.mono e1, hp1⟩
  | false => rw [if_neg Bool.false_ne_true] at hp1 ⊢; exact hp1 m1 H1 .refl hr1
theorem rt_or {rest : List Expr} (ha : PT X a (tT G W F a')) (hb : PW X (.BoolOp .Or (b :: rest) pos) (tT G W F b')) : PW X (.BoolOp .Or (a :: b :: rest) pos) (tT G W F (.or a' b')) := by
  refine ⟨fun wh pins s σ H Q I hp => (pw_or ha hb).run wh pins s σ H Q I ?_⟩
  obtain ⟨m, ρ, h, hr, er, hp⟩ := hp
  rw [evB_or] at hp
  refine ⟨m, ρ, h, hr, er, postR_imp (postR_bindR hp) fun k H1 ⟨m1, h1, e1, hr1, hp1⟩ => ?_⟩
  cases k with
  | true => rw [if_pos rfl] at hp1 ⊢; exact hp1 m1 H1 .refl hr1
  | false => rw [if_neg Bool.false_ne_true] at hp1 ⊢; exact ⟨m1, ρ, h1, hr1, er.mono e1, hp1⟩
theorem rt_not (ha : PT X a (tT G W F a')) : PT X (.UnaryOp .Not a pos) (tT G W F (.not a')) := by
  refine (pt_not ha).weaken fun σ H Q ⟨m, ρ, h, hr, er, hp⟩ => ?_
  rw [evB_not] at hp
  exact ⟨m, ρ, h, hr, er, postR_imp (postR_bindR hp) fun k H1 ⟨m1, h1, e1, hr1, hp1⟩ => hp1 m1 H1 .refl hr1⟩
theorem r_ite (hc : PT X c (tT G W F c')) (ha : PE X a (tE G W F a')) (hb : PE X b (tE G W F b')) : PE X (.IfExp c a b pos) (tE G W F (.ite c' a' b')) := by
  refine (pe_ifExp hc ha hb).weaken fun σ H Q ⟨m, ρ, h, hr, er, hp⟩ => ?_
  rw [evE_ite] at hp
  refine ⟨m, ρ, h, hr, er, postR_imp (post_bindR hp) fun k H1 ⟨m1, h1, e1, hr1, hp1⟩ => ?_⟩
  cases k with
  | true => rw [if_pos rfl] at hp1 ⊢; exact ⟨m1, ρ, h1, hr1, er.mono e1, hp1⟩
  | false => rw [if_neg Bool.false_ne_true] at hp1 ⊢; exact ⟨m1, ρ, h1, hr1, er.mono e1, hp1⟩

/-! ### calls -/
theorem r_callB {x : Str} {p : Pos} {id : String} {f : Bif} {es : List Expr} {es' : Exs} (ho : CallR X (.builtin id) (rL G (bfn f))) (hg : Gl X x) (hm : X.mg x = none) (hv : bootBuiltins x = some (.builtin id)) (ha : PA X (e :: es) (tEs G W F es'))
    (hn : x ≠ "__name__") (hdb : (x == ("__debug__" : Str)) = false) (he : starEach (e :: es) X.env = (false, eval e X.env) :: starEach es X.env) (hpl : (backTo pos (starEach es X.env)).any (·.1) = false) : PE X (.Call (.Name x p) (e :: es) [] pos) (tE G W F (.bfn f es')) := by
  refine (pe_callB ho hg hm hv ha hn hdb he hpl).weaken fun σ H Q ⟨m, ρ, h, hr, er, hp⟩ => ?_
  exact ⟨m, ρ, h, hr, er, posts_imp (post_binds hp) fun vs H1 ⟨m1, d1, h1, e1, hr1, vd1, hp1⟩ => ⟨m1, d1, h1, hr1, vd1, post_quiet (fun _ _ => quiet_bfn) hp1⟩⟩
theorem r_callTy {x : Str} {p : Pos} {id : String} {f : Bif} {es : List Expr} {es' : Exs} (ho : CallR X (.type id) (rL G (bfn f))) (hg : Gl X x) (hm : X.mg x = none) (hv : bootBuiltins x = some (.type id)) (ha : PA X (e :: es) (tEs G W F es'))
    (hn : x ≠ "__name__") (hdb : (x == ("__debug__" : Str)) = false) (he : starEach (e :: es) X.env = (false, eval e X.env) :: starEach es X.env) (hpl : (backTo pos (starEach es X.env)).any (·.1) = false) : PE X (.Call (.Name x p) (e :: es) [] pos) (tE G W F (.bfn f es')) := by
  refine (pe_callTy ho hg hm hv ha hn hdb he hpl).weaken fun σ H Q ⟨m, ρ, h, hr, er, hp⟩ => ?_
  exact ⟨m, ρ, h, hr, er, posts_imp (post_binds hp) fun vs H1 ⟨m1, d1, h1, e1, hr1, vd1, hp1⟩ => ⟨m1, d1, h1, hr1, vd1, post_quiet (fun _ _ => quiet_bfn) hp1⟩⟩
/-- isinstance(e, T), T a built-in type -/
theorem r_isi {x y : Str} {p p2 : Pos} {t : Ty} (hK : X.K = G.K) (hg : Gl X x) (hm : X.mg x = none) (hv : bootBuiltins x = some (.builtin "isinstance")) (ha : PE X e (tE G W F e')) (hy : PE X (.Name y p2) (tC (.ty (tyName t))))
    (hn : x ≠ "__name__") (hdb : (x == ("__debug__" : Str)) = false) (he : starEach [e, .Name y p2] X.env = [(false, eval e X.env), (false, eval (.Name y p2) X.env)]) :
    PE X (.Call (.Name x p) [e, .Name y p2] [] pos) (tE G W F (.bfn (.isi t) (.cons e' .nil))) := by
  have h2 : starEach [.Name y p2] X.env = [(false, eval (.Name y p2) X.env)] := rfl
  refine (pe_callB (isi_ok (G := G) t) hg hm hv (pa_cons ha (pa_cons hy pa_nil rfl) (by rw [he, h2])) hn hdb (by rw [he, h2]) (by rw [h2]; rfl)).weaken fun σ H Q ⟨m, ρ, h, hr, er, hp⟩ => ?_
  have e0 : evE F (.bfn (.isi t) (.cons e' .nil)) ρ h = (evE F e' ρ h).bind fun x h => bfn (.isi t) [x] h := by
    show ((evE F e' ρ h).bind fun x h => (Res.ok [] h).bind fun xs h => .ok (x :: xs) h).bind _ = _
    cases evE F e' ρ h <;> rfl
  rw [e0] at hp
  refine ⟨m, ρ, h, hr, er, post_imp (post_bind hp) fun v H1 ⟨m1, d1, h1, e1, hr1, vd1, hp1⟩ => ?_⟩
  exact ⟨v, rfl, hK, m1, [d1], h1, hr1, .cons vd1 .nil, post_quiet (fun _ _ => quiet_bfn) hp1⟩
/-- e[::-1] -/
theorem r_rev {k : Nat} {p1 p2 p3 : Pos} (hK : X.K = G.K) (ha : PE X a (tE G W F a')) : PE X (.Subscript a (.Slice none none (some (.UnaryOp .USub (.Constant (.int 1) k p1) p2)) p3) pos) (tE G W F (.rev a')) := by
  refine (pe_revL ha).weaken fun σ H Q ⟨m, ρ, h, hr, er, hp⟩ => ?_
  refine ⟨m, ρ, h, hr, er, post_imp (post_bind hp) fun v H1 ⟨m1, d1, h1, e1, hr1, vd1, hp1⟩ => ?_⟩
  have hp2 : post G W σ m1 H1 Q (match lstOf h1 d1 with
    | some ds => newL ds.reverse h1
    | none => .stk) := hp1
  split at hp2
  · rename_i ds hds
    obtain ⟨p, vs, rfl, hsq, hv⟩ := lst_of hr1 vd1 hds
    exact ⟨p, vs, rfl, hK ▸ hsq, newL_ok hr1 hv.reverse hp2⟩
  · exact hp2.elim
/-- a written dict by text keys -/
structure DicOk (X : Cx) (G : Gm) (a : Addr) (kvs : List (Str × D)) : Prop where
  ex : ∃ es n, KDict X.K X.w a es n
  get : ∀ z, (kvs.lookup z = none ∧ PySem.W.nsIn X.K a z = some none) ∨ ∃ d u v, kvs.lookup z = some d ∧ PySem.W.nsIn X.K a z = some (some u) ∧ RelV v u ∧ ∀ m H, VD G m H v d
theorem kd_get {d : Addr} {es : Array DictEntry} {n : Nat} {pins : List (Addr × Obj)} {σ : L2.St} {H : Hp} {s : Shared} {Q : Value → Shared → Prop} {z : Str} {t : Tok} {r : Option Value} (D : KDict X.K X.w d es n) (I : Inv X pins σ H s) {E : Value → Shared → Prop} (e : PySem.W.nsIn X.K d z = some r) (hQ : ∀ s', Inv X pins σ H s' → Q (r.getD .none) s') :
    wpAny (model X.prog X.w) X.A (call (.builtin "dict.get") [.ref d, .str z t]) Q E s := by
  have hm := PySem.W.mapOf_K (prog := X.prog) (w := X.w) I.kIn D.at_ D.lit
  refine call_meetsIn PySem.F.slot_dict_get hm.typeIs PySem.F.entry_dict_get (PySem.F.args_dict_get_2 _ _) (meets_dict_get (strKind X.prog X.w) d (PySem.strKind_is X.prog X.w z t) D.low) ⟨_, hm, ?_⟩
  rw [PySem.W.find_K D.at_ e]
  exact hQ _ (I.tok _)
end
end Mp

set_option Elab.async false
set_option linter.all false
set_option maxRecDepth 100000
set_option maxHeartbeats 1000000
/-! C6: calls of defs and methods, fields, instances, methods of built-in types. -/
namespace Mp
open PySem PySem.Spec PyProof.Rows L2
/-- what a def promises: what the interpreter gives -/
def spF (G : Gm) (Fn : Fns) (k : Nat) : Sp := fun vs H Q E => ∃ m args h, HR G m h H ∧ VDs G m H vs args ∧ match Fn.call k args h with
  | .ok d h' => ∀ m' v H', Ext G.K m H m' H' → HR G m' h' H' → VD G m' H' v d → Q v H'
  | .exc c h' => ∀ m' H', Ext G.K m H m' H' → HR G m' h' H' → E (G.xa c) none H'
  | .stk => False
/-- a def that may be called: dfl its defaults -/
structure FnC (G : Gm) (Fn : Fns) (X : Cx) (k : Nat) (dfl : List D) : Prop where
  ex : ∃ (r : Nat) (fd : FuncData) (ps : List Str), FnOk X.prog X.w X.K X.mg X.base (L2N.CX X.prog X.w) r (G.fa k) fd ps (spF G Fn k) ∧ Room (r + 1) X.A ∧ PySem.W.keepIn X.K (.ref (G.fa k)) = true ∧
    ∀ j, ∃ dvs dus, Vals dvs dus ∧ Binds X.K fd ps dus ∧ ∀ m H, VDs G m H dvs (dfl.drop j)
section
variable {G : Gm} {W : WX} {F : Fns} {X : Cx} {e a b c o : Expr} {e' a' b' c' o' : Ex} {pos apos : Pos} {es : List Expr} {es' : Exs}
theorem run_S {k r : Nat} {fd : FuncData} {ps : List Str} {dvs : List V} {dus : List Value} {pins : List (Addr × Obj)} {σ : L2.St} {H : Hp} {s : Shared} {Q : VK} {us : List Value} {vs : List V} {m : List Addr} {args : List D} {h : PH}
    (FO : FnOk X.prog X.w X.K X.mg X.base (L2N.CX X.prog X.w) r (G.fa k) fd ps (spF G F k)) (hr : Room r X.A) (hb : Binds X.K fd ps dus) (hd : Vals dvs dus) (tk : L2N.Takes X W) (I : Inv X pins σ H s) (rv : Vals vs us)
    (hh : HR G m h H) (hv : VDs G m H (vs ++ dvs) args) (hp : post G W σ m H Q (F.call k args h)) : wpAny (model X.prog X.w) X.A (call (.ref (G.fa k)) us) (EP X pins σ Q) X.xe s := by
  refine run_fnSD (E := fun σ => WE W σ) FO hr hb hd (L2N.passAt tk σ) I rv ⟨m, args, h, hh, hv, ?_⟩
  cases q : F.call k args h with
  | stk => rw [q] at hp; exact hp
  | exc c h' => rw [q] at hp; exact hp
  | ok d h' => rw [q] at hp; exact hp
theorem r_call {k : Nat} {x : Str} {p : Pos} {dfl : List D} (j : Nat) (FO : FnC G F X k dfl) (tk : L2N.Takes X W) (hg : Gl X x) (hm : X.mg x = some (.ref (G.fa k))) (ha : PA X (e :: es) (tEs G W F es'))
    (hdb : (x == ("__debug__" : Str)) = false) (he : starEach (e :: es) X.env = (false, eval e X.env) :: starEach es X.env) (hpl : (backTo pos (starEach es X.env)).any (·.1) = false) :
    PE X (.Call (.Name x p) (e :: es) [] pos) (tE G W F (.call k es' (dfl.drop j))) := by
  obtain ⟨r, fd, ps, FO, hr, hk, hb⟩ := FO.ex
  obtain ⟨dvs, dus, hd, hb, hv⟩ := hb j
  refine ⟨fun pins s σ H Q I ⟨m, ρ, h, hh, er, hp⟩ => ?_⟩
  refine wpAny_Call_Name_kw (ld_glob I hg hm ?_ hdb)
  refine PySem.W.callWith_K (h₀ := X.base) I.ok.mod.kin hk (thn (ha.run pos pins s σ H _ I ⟨m, ρ, h, hh, er, post_binds hp⟩) fun us s1 ⟨vs, H1, I1, r, m1, d1, h1, e1, hr1, vd1, hp1⟩ => ⟨I1.kIn, ?_⟩) he hpl
  exact run_S FO (hr.mono (Nat.le_succ _)) hb hd tk I1 r hr1 (vd1.append (hv m1 H1)) hp1
theorem r_call0 {k : Nat} {x : Str} {p : Pos} {dfl : List D} (j : Nat) (FO : FnC G F X k dfl) (tk : L2N.Takes X W) (hg : Gl X x) (hm : X.mg x = some (.ref (G.fa k)))
    (hdb : (x == ("__debug__" : Str)) = false) : PE X (.Call (.Name x p) [] [] pos) (tE G W F (.call k .nil (dfl.drop j))) := by
  obtain ⟨r, fd, ps, FO, hr, hk, hb⟩ := FO.ex
  obtain ⟨dvs, dus, hd, hb, hv⟩ := hb j
  refine ⟨fun pins s σ H Q I ⟨m, ρ, h, hh, er, hp⟩ => ?_⟩
  refine wpAny_Call_Name_kw (ld_glob I hg hm ?_ hdb)
  exact PySem.W.callWith_K0 I.kIn hk (run_S (us := []) (vs := []) FO (hr.mono (Nat.le_succ _)) hb hd tk I .nil hh (hv m H) hp)

/-! ### fields -/
/-- a call of a name that holds a def -/
theorem r_callv {x : Str} {p : Pos} {i : Nat} (FA : ∀ k, F.has k = true → FnC G F X k []) (tk : L2N.Takes X W) (hN : X.N[i]? = some x) (hv : Vis X.env.scope x) (ha : PA X (e :: es) (tEs G W F es'))
    (hdb : (x == ("__debug__" : Str)) = false) (hcd : (x == ("__classdict__" : Str)) = false) (he : starEach (e :: es) X.env = (false, eval e X.env) :: starEach es X.env) (hpl : (backTo pos (starEach es X.env)).any (·.1) = false) :
    PE X (.Call (.Name x p) (e :: es) [] pos) (tE G W F (.callv i es')) := by
  refine ⟨fun pins s σ H Q I ⟨m, ρ, h, hh, er, hp⟩ => ?_⟩
  have hp' : post G W σ m H Q (match ρ[i]? with
    | some (some (.fn k)) => if F.has k = true then (evEs F es' ρ h).bind fun xs h => F.call k xs h else .stk
    | _ => .stk) := hp
  split at hp'
  · rename_i k hk
    obtain ⟨v, g1, g2⟩ := er.2 i _ hk
    cases g2
    rename_i g2
    split at hp'
    · rename_i hh2
      obtain ⟨r, fd, ps, FO, hr, hk2, hb⟩ := (FA k hh2).ex
      obtain ⟨dvs, dus, hd, hb, hv2⟩ := hb 0
      refine wpAny_Call_Name_kw (thn ((pe_var (pos := p) hN hv hdb hcd).run pins s σ H (fun v H1 => v = .ref (G.fa k) ∧ H1 = H) I ⟨_, g1, by rw [g2], rfl⟩) fun u s1 ⟨v, H1, I1, r1, q1⟩ => ?_)
      obtain ⟨rfl, rfl⟩ := q1
      cases r1
      refine PySem.W.callWith_K (h₀ := X.base) I.ok.mod.kin hk2 (thn (ha.run pos pins s1 σ _ _ I1 ⟨m, ρ, h, hh, er, post_binds hp'⟩) fun us s2 ⟨vs, H2, I2, r, m1, d1, h1, e1, hr1, vd1, hp1⟩ => ⟨I2.kIn, ?_⟩) he hpl
      have hv3 := vd1.append (hv2 m1 H2)
      rw [List.drop_nil, List.append_nil] at hv3
      exact run_S FO (hr.mono (Nat.le_succ _)) hb hd tk I2 r hr1 hv3 hp1
    · exact hp'.elim
  · exact hp'.elim
theorem fvd_lookup {m : List Addr} {H : Hp} {f : Str} : ∀ {vs : List (Str × V)} {fs : List (Str × D)}, FVD G m H vs fs → (vs.lookup f = none ∧ fs.lookup f = none) ∨ ∃ v d, vs.lookup f = some v ∧ fs.lookup f = some d ∧ VD G m H v d
  | _, _, .nil => .inl ⟨rfl, rfl⟩
  | _, _, .cons (k := k) (v := v) (d := d) x r => by
    rw [List.lookup_cons, List.lookup_cons]
    cases hb : f == k with
    | true => exact .inr ⟨v, d, rfl, rfl, x⟩
    | false => exact fvd_lookup r
theorem fvd_put {m : List Addr} {H : Hp} {f : Str} {w : V} {e : D} (hw : VD G m H w e) : ∀ {vs : List (Str × V)} {fs : List (Str × D)}, FVD G m H vs fs → FVD G m H (L2.putF f w vs) (putF f e fs)
  | _, _, .nil => .cons hw .nil
  | _, _, .cons (k := k) (v := v) (d := d) x r => by
    unfold L2.putF putF
    by_cases hb : k = f
    · rw [if_pos hb, if_pos hb]; exact .cons hw r
    · rw [if_neg hb, if_neg hb]; exact .cons x (fvd_put hw r)
theorem fvd_len {m : List Addr} {H : Hp} : ∀ {vs : List (Str × V)} {fs : List (Str × D)}, FVD G m H vs fs → vs.length = fs.length
  | _, _, .nil => rfl
  | _, _, .cons _ r => by rw [List.length_cons, List.length_cons, fvd_len r]
theorem fld_of {m : List Addr} {H : Hp} {h : PH} {v : V} {x : D} {f : Str} {d : D} {h' : PH} (hr : HR G m h H) (vd : VD G m H v x) (q : fldop F x f h = .ok d h') :
    ∃ a c dx vs w, v = .ref a ∧ H a = some (.ins (G.ca c) dx vs) ∧ F.fld c f = true ∧ vs.lookup f = some w ∧ VD G m H w d ∧ h' = h := by
  unfold fldop at q
  split at q
  · rename_i l
    split at q
    · rename_i c fs eo
      split at q
      · rename_i d' h1 h2
        cases q
        cases vd with
        | @ref a l hl =>
          obtain ⟨dx, vs, q1, q2, q3⟩ := hr.of hl eo
          rcases fvd_lookup (f := f) q3 with ⟨_, z⟩ | ⟨w, d2, z1, z2, z3⟩
          · rw [h2] at z; cases z
          · rw [h2] at z2; cases z2
            exact ⟨a, c, dx, vs, w, rfl, q1, h1, z1, z3, rfl⟩
      · cases q
    · cases q
  · cases q
theorem r_fld {f : Str} (hf : ∀ c, F.fld c f = true → Cls X.K (G.ca c) ∧ NoAttr X.K (G.ca c) f) (ha : PE X a (tE G W F a')) (hb : attributeBase a f X.env (eval a X.env) = eval a X.env) :
    PE X (.Attribute a f pos) (tE G W F (.fld a' f)) := by
  refine (pe_fld ha hb).weaken fun σ H Q ⟨m, ρ, h, hr, er, hp⟩ => ?_
  refine ⟨m, ρ, h, hr, er, post_imp (post_bind hp) fun v H1 ⟨m1, d1, h1, e1, hr1, vd1, hp1⟩ => ?_⟩
  cases q : fldop F d1 f h1 with
  | stk => rw [q] at hp1; exact hp1.elim
  | exc c h' => exact absurd q quiet_fld
  | ok d h' =>
    rw [q] at hp1
    obtain ⟨p, c, dx, vs, w, rfl, q1, q2, q3, q4, rfl⟩ := fld_of hr1 vd1 q
    obtain ⟨k1, k2⟩ := hf c q2
    exact ⟨p, G.ca c, dx, vs, w, rfl, q1, k1, k2, q3, post_now hr1 q4 hp1⟩

/-! ### methods of own classes, instances -/
theorem evUmt {x : D} {mn : Str} {r : PH → Res (List D)} {h : PH} {m : List Addr} {H : Hp} {σ : L2.St} {Q : VK}
    (hp : post G W σ m H Q (match x with
    | .ref l => (match h[l]? with
      | some (.ins c fs) => (match F.mth c mn, fs.lookup mn with
        | some f, none => (r h).bind fun xs h => F.call f (x :: xs) h
        | _, _ => .stk)
      | _ => .stk)
    | _ => .stk)) : ∃ l c fs f, x = .ref l ∧ h[l]? = some (.ins c fs) ∧ F.mth c mn = some f ∧ fs.lookup mn = none ∧ post G W σ m H Q ((r h).bind fun xs h => F.call f (x :: xs) h) := by
  split at hp
  · rename_i l
    split at hp
    · rename_i c fs eo
      split at hp
      · rename_i f h1 h2
        exact ⟨l, c, fs, f, rfl, eo, h1, h2, hp⟩
      · exact hp.elim
    · exact hp.elim
  · exact hp.elim
theorem r_umt {mn : Str} {pl : Sem Bool} (hf : ∀ c f, F.mth c mn = some f → Cls X.K (G.ca c) ∧ Meth X.K (G.ca c) mn (G.fa f) ∧ FnC G F X f []) (tk : L2N.Takes X W) (ho : PE X o (tE G W F o')) (ha : PA X (e :: es) (tEs G W F es'))
    (hst : starEach (e :: es) X.env = (false, eval e X.env) :: starEach es X.env) (hpl : (backTo pos (starEach es X.env)).any (·.1) = false)
    (ht : eval (.Call (.Attribute o mn apos) (e :: es) [] pos) X.env = (do
      let ov ← eval o X.env
      standAt apos.atName
      let (f, first) ← holding [ov] (getMethod ov mn pl)
      callWith pos f first (backTo pos (starEach (e :: es) X.env)) (backToKw pos (keywordEach [] X.env)))) :
    PE X (.Call (.Attribute o mn apos) (e :: es) [] pos) (tE G W F (.umt o' mn es')) := by
  refine ⟨fun pins s σ H Q I ⟨m, ρ, h, hh, er, hp⟩ => ?_⟩
  refine PySem.W.methodCall_KW (pl := pl) (thn (ho.run pins s σ H _ I ⟨m, ρ, h, hh, er, post_bind hp⟩) fun u s1 ⟨x, H1, I1, rx, m1, d1, h1, e1, hr1, vd1, hp1⟩ => ?_) ht
  obtain ⟨l, c, fs, f, rfl, eo, hm, hl, hp2⟩ := evUmt (r := fun h => evEs F es' ρ h) hp1
  cases vd1 with
  | @ref p l hpl2 =>
    obtain rfl : u = Value.ref p := rx
    obtain ⟨dx, vs, q1, q2, q3⟩ := hr1.of hpl2 eo
    obtain ⟨k1, k2, k3⟩ := hf c f hm
    obtain ⟨r, fd, ps, FO, hr, hk, hb⟩ := k3.ex
    obtain ⟨dvs, dus, hd, hb, hv⟩ := hb 0
    have l2 : vs.lookup mn = none := by
      rcases fvd_lookup (f := mn) q3 with ⟨z, _⟩ | ⟨w, d2, z1, z2, z3⟩
      · exact z
      · rw [hl] at z2; cases z2
    refine getmeth_ok I1 q1 k1 k2 l2 ?_
    refine PySem.W.callWith_K (first := [.ref p]) (h₀ := X.base) I.ok.mod.kin k2.kp (thn (ha.run pos pins s1 σ H1 _ I1 ⟨m1, ρ, h1, hr1, er.mono e1, post_binds hp2⟩) fun us s2 ⟨vs2, H2, I2, r2, m2, d2, h2, e2, hr2, vd2, hp3⟩ => ⟨I2.kIn, ?_⟩) hst hpl
    have hx : VD G m2 H2 (.ref p) (.ref l) := .ref (e2.get hpl2)
    refine run_S (us := .ref p :: us) (vs := .ref p :: vs2) (args := (.ref l :: d2) ++ List.drop 0 []) FO (hr.mono (Nat.le_succ _)) hb hd tk I2 (.cons rfl r2) hr2 ((VDs.cons hx vd2).append (hv m2 H2)) ?_
    rw [List.drop_nil, List.append_nil]
    exact hp3
theorem r_umt0 {mn : Str} {pl : Sem Bool} (hf : ∀ c f, F.mth c mn = some f → Cls X.K (G.ca c) ∧ Meth X.K (G.ca c) mn (G.fa f) ∧ FnC G F X f []) (tk : L2N.Takes X W) (ho : PE X o (tE G W F o'))
    (ht : eval (.Call (.Attribute o mn apos) [] [] pos) X.env = (do
      let ov ← eval o X.env
      standAt apos.atName
      let (f, first) ← holding [ov] (getMethod ov mn pl)
      callWith pos f first (backTo pos (starEach [] X.env)) (backToKw pos (keywordEach [] X.env)))) :
    PE X (.Call (.Attribute o mn apos) [] [] pos) (tE G W F (.umt o' mn .nil)) := by
  refine ⟨fun pins s σ H Q I ⟨m, ρ, h, hh, er, hp⟩ => ?_⟩
  refine PySem.W.methodCall_KW (pl := pl) (thn (ho.run pins s σ H _ I ⟨m, ρ, h, hh, er, post_bind hp⟩) fun u s1 ⟨x, H1, I1, rx, m1, d1, h1, e1, hr1, vd1, hp1⟩ => ?_) ht
  obtain ⟨l, c, fs, f, rfl, eo, hm, hl, hp2⟩ := evUmt (r := fun h => evEs F .nil ρ h) hp1
  cases vd1 with
  | @ref p l hpl2 =>
    obtain rfl : u = Value.ref p := rx
    obtain ⟨dx, vs, q1, q2, q3⟩ := hr1.of hpl2 eo
    obtain ⟨k1, k2, k3⟩ := hf c f hm
    obtain ⟨r, fd, ps, FO, hr, hk, hb⟩ := k3.ex
    obtain ⟨dvs, dus, hd, hb, hv⟩ := hb 0
    have l2 : vs.lookup mn = none := by
      rcases fvd_lookup (f := mn) q3 with ⟨z, _⟩ | ⟨w, d2, z1, z2, z3⟩
      · exact z
      · rw [hl] at z2; cases z2
    refine getmeth_ok I1 q1 k1 k2 l2 ?_
    have hx : VD G m1 H1 (.ref p) (.ref l) := .ref hpl2
    refine PySem.W.callWith_K0 (first := [.ref p]) I1.kIn k2.kp (run_S (us := [.ref p]) (vs := [.ref p]) (args := (.ref l :: []) ++ List.drop 0 []) FO (hr.mono (Nat.le_succ _)) hb hd tk I1 (.cons rfl .nil) hr1 ((VDs.cons hx .nil).append (hv m1 H1)) ?_)
    rw [List.drop_nil, List.append_nil]
    exact hp2
/-- a new instance -/
theorem HR.ins {m : List Addr} {h : PH} {H : Hp} {x dx : Addr} {c : Nat} (r : HR G m h H) (hx : H x = none) (hd : H dx = none) (ne : dx ≠ x) :
    Ext G.K m H (m ++ [x]) (upd (upd H dx (.own x)) x (.ins (G.ca c) dx [])) ∧ HR G (m ++ [x]) (h ++ [.ins c []]) (upd (upd H dx (.own x)) x (.ins (G.ca c) dx [])) := by
  have r1 : HR G m h (upd H dx (.own x)) := ⟨r.len, r.nd, fun l a o ea eo => (r.obj l a o ea eo).keep (ext_tup hd) ((r.obj l a o ea eo).ne_free hd) (.inl hd)⟩
  have hx1 : upd H dx (.own x) x = none := by rw [upd_ne (Ne.symm ne)]; exact hx
  have e1 : Ext G.K m H m (upd H dx (.own x)) := ext_tup hd
  have e2 : Ext G.K m (upd H dx (.own x)) (m ++ [x]) (upd (upd H dx (.own x)) x (.ins (G.ca c) dx [])) := ext_new hx1
  exact ⟨e1.trans e2, r1.new hx1 ⟨dx, [], upd_same, by rw [upd_ne ne]; exact upd_same, .nil⟩⟩
theorem run_makeS {C f : Addr} {k : Nat} {fd : FuncData} {ps : List Str} {sp : Sp} {ds : List Value} {dvs : List V} {E : XK} {CX : CXT} {pins : List (Addr × Obj)} {σ : L2.St} {H : Hp} {s : Shared} {Q : VK} {us : List Value} {vs : List V} (M : Mk X.K C f) (FO : FnOk X.prog X.w X.K X.mg X.base CX k f fd ps sp) (hr : Room (k + 1) X.A) (hb : Binds X.K fd ps ds) (hd : Vals dvs ds)
    (hx : PassesAt CX X σ E) (I : Inv X pins σ H s) (r : Vals vs us)
    (h : ∀ x dx, H x = none → H dx = none → dx ≠ x → sp (.ref x :: (vs ++ dvs)) (upd (upd H dx (.own x)) x (.ins C dx [])) (fun v H2 => v = .non ∧ Q (.ref x) H2) E) :
    wpAny (model X.prog X.w) X.A (call (.ref C) us) (EP X pins σ Q) X.xe s := by
  have hq := h (s.heap.objs.size + 1) s.heap.objs.size (I.hok.fresh (Nat.le_succ _)) (I.hok.fresh (Nat.le_refl _)) (Nat.ne_of_lt (Nat.lt_succ_self _))
  have I2 := Inv.made (C := C) I
  have r2 : Vals (V.ref (s.heap.objs.size + 1) :: (vs ++ dvs)) (Value.ref (s.heap.objs.size + 1) :: (us ++ ds)) := .cons rfl (r.append hd)
  have hl : (Value.ref (s.heap.objs.size + 1) :: us ++ ds).length = ps.length := by
    have e := r2.length
    rw [FO.len _ _ _ _ hq] at e
    exact e.symm
  refine wpAny_call (make_map (f := f) I.kIn M.makes M.init (beq_iff_eq.mp M.fn) (codeAny_mono (FO.run _ X.stack _ _ ⟨Value.ref (s.heap.objs.size + 1) :: us, []⟩ (Value.ref (s.heap.objs.size + 1) :: (us ++ ds)) _ _ E (hr.make C us [])
    (I2.env0.make C us []) (hb _ (Value.ref (s.heap.objs.size + 1) :: us) I2.kIn hl) r2 hq) fun r s' hq' => ?_))
  cases r with
  | error e => exact hx pins _ _ e s' I2 hq'
  | ok fl =>
    cases fl with
    | ret u =>
      obtain ⟨v, H', I3, rv, ev, q3⟩ := I2.after hq'
      subst ev
      exact ⟨rv, ⟨V.ref (s.heap.objs.size + 1), H', I3, rfl, q3⟩⟩
    | next => exact False.elim hq'
    | brk => exact False.elim hq'
    | cont => exact False.elim hq'
theorem r_mk {c k : Nat} {x : Str} {p : Pos} {dfl : List D} (j : Nat) (hi : F.ini c = some k) (M : Mk X.K (G.ca c) (G.fa k)) (FO : FnC G F X k dfl) (tk : L2N.Takes X W) (hg : Gl X x) (hm : X.mg x = some (.ref (G.ca c))) (ha : PA X (e :: es) (tEs G W F es')) (hj : dfl.drop j = [])
    (hdb : (x == ("__debug__" : Str)) = false) (he : starEach (e :: es) X.env = (false, eval e X.env) :: starEach es X.env) (hpl : (backTo pos (starEach es X.env)).any (·.1) = false) :
    PE X (.Call (.Name x p) (e :: es) [] pos) (tE G W F (.mk c es')) := by
  obtain ⟨r, fd, ps, FO, hr, hk, hb⟩ := FO.ex
  obtain ⟨dvs, dus, hd, hb, hv⟩ := hb j
  refine ⟨fun pins s σ H Q I ⟨m, ρ, h, hh, er, hp⟩ => ?_⟩
  refine wpAny_Call_Name_kw (ld_glob I hg hm ?_ hdb)
  refine PySem.W.callWith_K (h₀ := X.base) I.ok.mod.kin M.kp (thn (ha.run pos pins s σ H _ I ⟨m, ρ, h, hh, er, post_binds hp⟩) fun us s1 ⟨vs, H1, I1, r, m1, d1, h1, e1, hr1, vd1, hp1⟩ => ⟨I1.kIn, ?_⟩) he hpl
  refine run_makeS M FO hr hb hd (E := WE W σ) (L2N.passAt tk σ) I1 r fun x dx nx ndx ne => ?_
  obtain ⟨e2, r2⟩ := HR.ins (c := c) hr1 nx ndx ne
  have hlen := hr1.len
  have hx : VD G (m1 ++ [x]) (upd (upd H1 dx (.own x)) x (.ins (G.ca c) dx [])) (.ref x) (.ref h1.length) := .ref (by rw [← hlen, List.getElem?_append_right (Nat.le_refl _)]; simp)
  refine ⟨_, .ref h1.length :: (d1 ++ dfl.drop j), _, r2, .cons hx ((vd1.mono e2).append (hv _ _)), ?_⟩
  have hp2 : post G W σ m1 H1 Q (match F.ini c with
    | some f => (F.call f (.ref h1.length :: d1) (h1 ++ [.ins c []])).bind fun r h' => if r = .non then .ok (.ref h1.length) h' else .stk
    | none => .stk) := hp1
  rw [hi] at hp2
  dsimp only at hp2
  rw [hj, List.append_nil]
  have hp3 := post_ext e2 hp2
  cases q : F.call k (.ref h1.length :: d1) (h1 ++ [.ins c []]) with
  | stk => rw [q] at hp3; exact hp3
  | exc c h' => rw [q] at hp3; exact hp3
  | ok d h' =>
    rw [q] at hp3
    intro m' v H' e3 hr3 vd3
    have hp4 : post G W σ _ _ Q (if d = .non then .ok (.ref h1.length) h' else .stk) := hp3
    split at hp4
    · rename_i hd
      subst hd
      cases vd3
      exact ⟨rfl, hp4 m' (.ref x) H' e3 hr3 (hx.mono e3)⟩
    · exact hp4.elim
theorem r_mk0 {c k : Nat} {x : Str} {p : Pos} {dfl : List D} (j : Nat) (hi : F.ini c = some k) (M : Mk X.K (G.ca c) (G.fa k)) (FO : FnC G F X k dfl) (tk : L2N.Takes X W) (hg : Gl X x) (hm : X.mg x = some (.ref (G.ca c))) (hj : dfl.drop j = [])
    (hdb : (x == ("__debug__" : Str)) = false) : PE X (.Call (.Name x p) [] [] pos) (tE G W F (.mk c .nil)) := by
  obtain ⟨r, fd, ps, FO, hr, hk, hb⟩ := FO.ex
  obtain ⟨dvs, dus, hd, hb, hv⟩ := hb j
  refine ⟨fun pins s σ H Q I ⟨m1, ρ, h1, hr1, er, hp1⟩ => ?_⟩
  refine wpAny_Call_Name_kw (ld_glob I hg hm ?_ hdb)
  refine PySem.W.callWith_K0 I.kIn M.kp (run_makeS (us := []) (vs := []) M FO hr hb hd (E := WE W σ) (L2N.passAt tk σ) I .nil fun x dx nx ndx ne => ?_)
  obtain ⟨e2, r2⟩ := HR.ins (c := c) hr1 nx ndx ne
  have hlen := hr1.len
  have hx : VD G (m1 ++ [x]) (upd (upd H dx (.own x)) x (.ins (G.ca c) dx [])) (.ref x) (.ref h1.length) := .ref (by rw [← hlen, List.getElem?_append_right (Nat.le_refl _)]; simp)
  refine ⟨_, .ref h1.length :: ([] ++ dfl.drop j), _, r2, .cons hx (VDs.append .nil (hv _ _)), ?_⟩
  have hp2 : post G W σ m1 H Q (match F.ini c with
    | some f => (F.call f (.ref h1.length :: []) (h1 ++ [.ins c []])).bind fun r h' => if r = .non then .ok (.ref h1.length) h' else .stk
    | none => .stk) := hp1
  rw [hi] at hp2
  dsimp only at hp2
  rw [hj, List.append_nil]
  have hp3 := post_ext e2 hp2
  cases q : F.call k (.ref h1.length :: []) (h1 ++ [.ins c []]) with
  | stk => rw [q] at hp3; exact hp3
  | exc c h' => rw [q] at hp3; exact hp3
  | ok d h' =>
    rw [q] at hp3
    intro m' v H' e3 hr3 vd3
    have hp4 : post G W σ _ _ Q (if d = .non then .ok (.ref h1.length) h' else .stk) := hp3
    split at hp4
    · rename_i hd
      subst hd
      cases vd3
      exact ⟨rfl, hp4 m' (.ref x) H' e3 hr3 (hx.mono e3)⟩
    · exact hp4.elim

/-! ### methods of built-in types -/
theorem mid_ok (hK : X.K = G.K) (hP : X.prog = G.P) (hw : X.w = G.w) (hu : X.A.units + 65 < cLine) {f : Mid} {k : Rk} {id : String} (h : midId f k = some id) : PlainAttrs (rkN k) ∧ Slot (rkN k) (mname f) id ∧ typeOf (.builtin id) = pure (.type "method_descriptor") ∧ MtR X id (rM G (met f k)) := by
  cases f <;> cases k <;> first
    | (cases h; done)
    | (cases h; exact ⟨PySem.F.plainAttrs_list, PySem.F.slot_list_append, PySem.F.type_list_append, append_ok⟩)
    | (cases h; exact ⟨PySem.F.plainAttrs_list, PySem.F.slot_list_extend, PySem.F.type_list_extend, extend_ok⟩)
    | (cases h; exact ⟨PySem.F.plainAttrs_list, PySem.F.slot_list_pop, PySem.F.type_list_pop, pop_ok⟩)
    | (cases h; exact ⟨PySem.F.plainAttrs_list, PySem.F.slot_list_pop, PySem.F.type_list_pop, popAt_ok⟩)
    | (cases h; exact ⟨PySem.F.plainAttrs_list, PySem.F.slot_list_clear, PySem.F.type_list_clear, clearL_ok⟩)
    | (cases h; exact ⟨PySem.F.plainAttrs_list, PySem.F.slot_list_reverse, PySem.F.type_list_reverse, reverse_ok⟩)
    | (cases h; exact ⟨PySem.F.plainAttrs_dict, PySem.F.slot_dict_clear, PySem.F.type_dict_clear, clearD_ok hK hP hw⟩)
    | (cases h; exact ⟨PySem.F.plainAttrs_dict, PySem.F.slot_dict_get, PySem.F.type_dict_get, get1_ok hK hP hw hu⟩)
    | (cases h; exact ⟨PySem.F.plainAttrs_dict, PySem.F.slot_dict_get, PySem.F.type_dict_get, get2_ok hK hP hw hu⟩)
    | (cases h; exact ⟨PySem.F.plainAttrs_dict, PySem.F.slot_dict_setdefault, PySem.F.type_dict_setdefault, setd_ok hK hP hw hu⟩)
    | (cases h; exact ⟨PySem.F.plainAttrs_dict, PySem.F.slot_dict_pop, PySem.F.type_dict_pop, dpop_ok hK hP hw hu⟩)
    | (cases h; exact ⟨PySem.F.plainAttrs_dict, PySem.F.slot_dict_pop, PySem.F.type_dict_pop, dpop2_ok hK hP hw hu⟩)
theorem met_some {f : Mid} {x : D} {r : PH → Res (List D)} {h : PH} {m : List Addr} {H : Hp} {σ : L2.St} {Q : VK}
    (hp : post G W σ m H Q (match rkOf h x with
      | some k => if (midId f k).isSome = true then (r h).bind fun xs h => met f k x xs h else .stk
      | none => .stk)) : ∃ k id, rkOf h x = some k ∧ midId f k = some id ∧ post G W σ m H Q ((r h).bind fun xs h => met f k x xs h) := by
  split at hp
  · rename_i k hk
    split at hp
    · rename_i hs
      obtain ⟨id, hid⟩ := Option.isSome_iff_exists.mp hs
      exact ⟨k, id, hk, hid, hp⟩
    · exact hp.elim
  · exact hp.elim
theorem r_met {f : Mid} (hK : X.K = G.K) (hP : X.prog = G.P) (hw : X.w = G.w) (hu : X.A.units + 65 < cLine) (ho : PE X o (tE G W F o')) (ha : PA X (e :: es) (tEs G W F es'))
    (hbase : attributeBase o (mname f) X.env (eval o X.env) = eval o X.env)
    (hfew : ((backTo pos (starEach (e :: es) X.env)).all (fun x => !x.1) && (backToKw pos (keywordEach [] X.env)).all (fun x => x.1.isSome)
      && decide ((e :: es).length + ([] : List Keyword).length + (if ([] : List Keyword).isEmpty then 0 else 1) < 30)) = true)
    (hline : (apos.endLine == pos.line) = true) (hst : starEach (e :: es) X.env = (false, eval e X.env) :: starEach es X.env) (hplain : (backTo pos (starEach es X.env)).any (·.1) = false) :
    PE X (.Call (.Attribute o (mname f) apos) (e :: es) [] pos) (tE G W F (.met f o' es')) := by
  refine ⟨fun pins s σ H Q I ⟨m, ρ, h, hh, er, hp⟩ => ?_⟩
  refine wpAny_Call_method_late hbase hfew hline rfl (thn (ho.run pins s σ H _ I ⟨m, ρ, h, hh, er, post_bind hp⟩) fun v s1 ⟨x, H1, I1, rx, m1, d1, h1, e1, hr1, vd1, hp1⟩ => ?_)
  obtain ⟨k, id, q, q2, hp2⟩ := met_some (r := fun h => evEs F es' ρ h) hp1
  obtain ⟨k1, k2, k3, k4⟩ := mid_ok (G := G) (X := X) hK hP hw hu q2
  obtain ⟨t1, t2⟩ := rk_is I1 rx hr1 vd1 q
  refine ⟨rkN k, id, k1, k2, k3, t1, t2, ?_⟩
  have hA := ha.run pos pins s1 σ H1 _ I1 ⟨m1, ρ, h1, hr1, er.mono e1, post_binds hp2⟩
  rw [hst] at hA ⊢
  refine Calls.callWith_builtin (by show (false || (backTo pos (starEach es X.env)).any (·.1)) = false; rw [hplain] <;> rfl) (Calls.evalArgs_plain ?_)
  exact thn hA fun us s2 ⟨vs, H2, I2, r2, m2, d2, h2, e2, hr2, vd2, hp3⟩ => k4 pins s2 σ H2 x vs v us Q I2 rx r2 ⟨m2, d1, d2, h2, hr2, vd1.mono e2, vd2, post_quiet (fun _ _ => quiet_met) hp3⟩
theorem r_met0 {f : Mid} (hK : X.K = G.K) (hP : X.prog = G.P) (hw : X.w = G.w) (hu : X.A.units + 65 < cLine) (ho : PE X o (tE G W F o'))
    (hbase : attributeBase o (mname f) X.env (eval o X.env) = eval o X.env) (hline : (apos.endLine == pos.line) = true) :
    PE X (.Call (.Attribute o (mname f) apos) [] [] pos) (tE G W F (.met f o' .nil)) := by
  refine ⟨fun pins s σ H Q I ⟨m, ρ, h, hh, er, hp⟩ => ?_⟩
  refine wpAny_Call_method0_late hbase hline (thn (ho.run pins s σ H _ I ⟨m, ρ, h, hh, er, post_bind hp⟩) fun v s1 ⟨x, H1, I1, rx, m1, d1, h1, e1, hr1, vd1, hp1⟩ => ?_)
  obtain ⟨k, id, q, q2, hp2⟩ := met_some (r := fun h => evEs F .nil ρ h) hp1
  obtain ⟨k1, k2, k3, k4⟩ := mid_ok (G := G) (X := X) hK hP hw hu q2
  obtain ⟨t1, t2⟩ := rk_is I1 rx hr1 vd1 q
  exact ⟨rkN k, id, k1, k2, k3, t1, t2, Calls.callWith_builtin rfl (PySem.evalArgs_none (k4 pins s1 σ H1 x [] v [] Q I1 rx .nil ⟨m1, d1, [], h1, hr1, vd1, .nil, post_quiet (fun _ _ => quiet_met) hp2⟩))⟩
end
end Mp

set_option Elab.async false
set_option linter.all false
set_option maxRecDepth 100000
set_option maxHeartbeats 1000000
/-! C7: targets, what loops walk. -/
namespace Mp
open PySem PySem.Spec PyProof.Rows L2
section
variable {G : Gm} {W : WX} {F : Fns} {X : Cx} {m m' : List Addr} {H H' : Hp} {h h' : PH} {σ : L2.St} {ρ : Env}
theorem ER.set {i : Nat} {v : V} {d : D} (er : ER G m H σ ρ) (vd : VD G m H v d) : ER G m H (σ.set i (some v)) (ρ.set i (some d)) := by
  refine ⟨by simp [er.1], fun j e q => ?_⟩
  by_cases hj : i = j
  · subst hj
    have hl : i < ρ.length := by
      have := (List.getElem?_eq_some_iff.mp q).1
      simpa using this
    rw [List.getElem?_set_self hl] at q
    cases q
    exact ⟨v, List.getElem?_set_self (by rw [er.1]; exact hl), vd⟩
  · rw [List.getElem?_set_ne hj] at q
    obtain ⟨w, q1, q2⟩ := er.2 j e q
    exact ⟨w, by rw [List.getElem?_set_ne hj]; exact q1, q2⟩
/-- only the slots in ls differ -/
def OnlyS (σ σ' : L2.St) (ls : List Nat) : Prop := σ'.length = σ.length ∧ ∀ j, j ∉ ls → σ'[j]? = σ[j]?
theorem OnlyS.refl {ls : List Nat} : OnlyS σ σ ls := ⟨rfl, fun _ _ => rfl⟩
theorem OnlyS.trans {σ' σ2 : L2.St} {ls ls' : List Nat} (a : OnlyS σ σ' ls) (b : OnlyS σ' σ2 ls') : OnlyS σ σ2 (ls ++ ls') :=
  ⟨b.1.trans a.1, fun j hj => (b.2 j fun z => hj (List.mem_append_right _ z)).trans (a.2 j fun z => hj (List.mem_append_left _ z))⟩
mutual
def tgS : Tg → List Nat
  | .stk => []
  | .name i => [i]
  | .tup ts => tgsS ts
  | .sub _ _ => []
def tgsS : Tgs → List Nat
  | .nil => []
  | .cons t ts => tgS t ++ tgsS ts
end
/-- behind a target -/
def postG (G : Gm) (σ : L2.St) (ls : List Nat) (m : List Addr) (H : Hp) (Q : L2.St → Hp → Prop) : Res Env → Prop
  | .ok ρ h' => ∀ m' σ' H', Ext G.K m H m' H' → HR G m' h' H' → ER G m' H' σ' ρ → OnlyS σ σ' ls → Q σ' H'
  | _ => False
theorem postG_ext {Q : L2.St → Hp → Prop} {r : Res Env} {ls : List Nat} (e : Ext G.K m H m' H') (p : postG G σ ls m H Q r) : postG G σ ls m' H' Q r := by
  cases r with
  | ok ρ h' => exact fun m2 σ2 H2 e2 => p m2 σ2 H2 (e.trans e2)
  | exc c h' => exact p
  | stk => exact p
def tG (G : Gm) (F : Fns) (t : Tg) : TG := fun v σ H Q => ∃ m ρ h d, HR G m h H ∧ ER G m H σ ρ ∧ VD G m H v d ∧ postG G σ (tgS t) m H Q (evT F t d ρ h)
def tGs (G : Gm) (F : Fns) (t : Tgs) : TGs := fun vs σ H Q => ∃ m ρ h ds, HR G m h H ∧ ER G m H σ ρ ∧ VDs G m H vs ds ∧ postG G σ (tgsS t) m H Q (evTs F t ds ρ h)
theorem _root_.L2.PG.weaken {X : Cx} {e : Expr} {t t' : TG} (p : PG X e t) (h : ∀ v σ H Q, t' v σ H Q → t v σ H Q) : PG X e t' := ⟨fun pins s σ H v u Q I r q => p.run pins s σ H v u Q I r (h v σ H Q q)⟩
theorem _root_.L2.PGs.weaken {X : Cx} {e : List Expr} {t t' : TGs} (p : PGs X e t) (h : ∀ v σ H Q, t' v σ H Q → t v σ H Q) : PGs X e t' := ⟨fun pins s σ H v u Q I r q => p.run pins s σ H v u Q I r (h v σ H Q q)⟩
theorem _root_.L2.PG.or {X : Cx} {e : Expr} {t t' : TG} (p : PG X e t) (p' : PG X e t') : PG X e (fun v σ H Q => t v σ H Q ∨ t' v σ H Q) := ⟨fun pins s σ H v u Q I r q => q.elim (fun q => p.run pins s σ H v u Q I r q) fun q => p'.run pins s σ H v u Q I r q⟩
variable {pos : Pos} {tg : Expr} {tgs : List Expr} {tg' : Tg} {tgs' : Tgs}
theorem rg_stk : PG X tg (tG G F .stk) := ⟨fun pins s σ H v u Q I r ⟨m, ρ, h, d, hr, er, vd, hp⟩ => hp.elim⟩
theorem rg_name {i : Nat} {x : Str} (hN : X.N.Nodup) (hi : X.N[i]? = some x) (hx : Loc X.env.scope x) (hf : X.fn x = true ∨ X.env.scope.names.lookup x = some .local) : PG X (.Name x pos) (tG G F (.name i)) :=
  (pg_name (i := i) hN hi hx hf).weaken fun v σ H Q ⟨m, ρ, h, d, hr, er, vd, hp⟩ => hp m _ H .refl hr (er.set vd) ⟨by simp, fun j hj => List.getElem?_set_ne (fun z => hj (by simp [tgS, z]))⟩
theorem rgs_nil : PGs X [] (tGs G F .nil) := (pgs_nil (X := X)).weaken fun vs σ H Q ⟨m, ρ, h, ds, hr, er, vd, hp⟩ => by
  cases ds with
  | nil => cases vd; exact ⟨rfl, hp m σ H .refl hr er .refl⟩
  | cons d ds => exact hp.elim
theorem rgs_cons (h1 : PG X tg (tG G F tg')) (h2 : PGs X tgs (tGs G F tgs')) (hs : (assignEach (tg :: tgs) X.env).map (·.2) = assign tg X.env :: (assignEach tgs X.env).map (·.2)) : PGs X (tg :: tgs) (tGs G F (.cons tg' tgs')) :=
  (pgs_cons h1 h2 hs).weaken fun vs σ H Q ⟨m, ρ, h, ds, hr, er, vd, hp⟩ => by
  cases ds with
  | nil => exact hp.elim
  | cons d ds =>
    cases vd with
    | cons a b =>
      refine ⟨_, _, rfl, m, ρ, h, d, hr, er, a, ?_⟩
      have hp' : postG G σ (tgS tg' ++ tgsS tgs') m H Q ((evT F tg' d ρ h).bind fun ρ h => evTs F tgs' ds ρ h) := hp
      cases q : evT F tg' d ρ h with
      | stk => rw [q] at hp'; exact hp'
      | exc c h' => rw [q] at hp'; exact hp'
      | ok ρ' h' =>
        rw [q] at hp'
        intro m' σ' H' e' hr' er' os
        refine ⟨m', ρ', h', ds, hr', er', b.mono e', ?_⟩
        have hp2 : postG G σ (tgS tg' ++ tgsS tgs') m H Q (evTs F tgs' ds ρ' h') := hp'
        cases q2 : evTs F tgs' ds ρ' h' with
        | stk => rw [q2] at hp2; exact hp2
        | exc c h' => rw [q2] at hp2; exact hp2
        | ok ρ2 h2 =>
          rw [q2] at hp2
          exact fun m2 σ2 H2 e2 hr2 er2 os2 => hp2 m2 σ2 H2 (e'.trans e2) hr2 er2 (os.trans os2)
theorem rg_tup {k : Nat} (hc : X.calm = true) (hK : X.K = G.K) (ha : PGs X tgs (tGs G F tgs')) (hn : ∀ ds ρ h, ds.length ≠ tgs.length → ∀ ρ' h', evTs F tgs' ds ρ h ≠ .ok ρ' h') (hl : (assignEach tgs X.env).length = tgs.length) (hst : (assignEach tgs X.env).findIdx? (·.1) = none) :
    PG X (.Tuple tgs k pos) (tG G F (.tup tgs')) := by
  refine ((pg_tup (n := tgs.length) hc ha hl hst).or (pg_unl (n := tgs.length) hc ha hl hst)).weaken fun v σ H Q ⟨m, ρ, h, d, hr, er, vd, hp⟩ => ?_
  have hp' : postG G σ (tgsS tgs') m H Q (match seqOf h d with
    | some ds => evTs F tgs' ds ρ h
    | none => .stk) := hp
  split at hp'
  · rename_i ds hds
    obtain ⟨a, vs, rfl, hsq, hv⟩ := seq_of hr vd hds
    have hlen : vs.length = tgs.length := by
      rw [hv.len]
      cases q : evTs F tgs' ds ρ h with
      | stk => rw [q] at hp'; exact hp'.elim
      | exc c h' => rw [q] at hp'; exact hp'.elim
      | ok ρ' h' => exact Classical.byContradiction fun z => hn ds ρ h z ρ' h' q
    rcases hsq with q | q
    · exact .inr ⟨a, vs, rfl, hK ▸ q, hlen, m, ρ, h, ds, hr, er, hv, hp'⟩
    · exact .inl ⟨a, vs, rfl, hK ▸ q, hlen, m, ρ, h, ds, hr, er, hv, hp'⟩
  · exact hp'.elim
/-- o[i] = v by values -/
def rSetq (G : Gm) : TSet := fun o i v H Q => ∃ m a b d h, HR G m h H ∧ VD G m H o a ∧ VD G m H i b ∧ VD G m H v d ∧ postR G (fun _ _ _ _ => False) [] m H (fun _ H' => Q H') (setop a b d h)
theorem set_all (hK : X.K = G.K) (hP : X.prog = G.P) (hw : X.w = G.w) (hu : X.A.units + 65 < cLine) : PSet X (rSetq G) := by
  intro pins s σ H o i v ov iv u Q I ro ri rv hq
  obtain ⟨m, a, b, d, h, hr, va, vb, vd, hp⟩ := hq
  unfold setop at hp
  split at hp
  · rename_i l
    cases va with
    | @ref p l hl =>
      split at hp
      · rename_i ds eo
        split at hp
        · rename_i i'
          cases vb
          split at hp
          · rename_i j hj
            obtain ⟨vs, h1, h2⟩ := hr.of hl eo
            refine set_list pins s σ H _ _ v ov iv u Q I ro ri rv ⟨p, vs, _, j, rfl, rfl, h1, by rw [← place_ix, h2.len]; exact hj, ?_⟩
            have e : Ext G.K m H m (upd H p (.lst (vs.set j v))) := ext_upd (wr_lst h1) (List.mem_of_getElem? hl)
            exact hp m _ e (hr.put hl eo (wr_lst h1) ⟨_, upd_same, VDs.set (vd.mono e) j (h2.mono e)⟩)
          · exact hp.elim
        · exact hp.elim
      · split at hp
        · rename_i h3 ed
          cases (show ov = Value.ref p from ro)
          exact dp_setItem hK hP hw hu I hr hl vb vd ri rv ed fun H' s' I' ex hr' => ⟨H', I', hp m _ ex hr'⟩
        · exact hp.elim
  · exact hp.elim
theorem rg_sub {o i : Expr} {o' i' : Ex} (hK : X.K = G.K) (hP : X.prog = G.P) (hw : X.w = G.w) (hu : X.A.units + 65 < cLine) (ho : PE X o (tE G W F o')) (hi : PE X i (tE G W F i')) (ha : ∀ v, assign (.Subscript o i pos) X.env v = (do
      let ov ← holding [v] (eval o X.env)
      let iv ← holding [v, ov] (eval i X.env)
      standAt pos
      holding [v, ov, iv] (setItem ov iv v)
      release [v, ov, iv] [])) : PG X (.Subscript o i pos) (tG G F (.sub o' i')) := by
  refine (pg_sub ho hi (set_all (G := G) hK hP hw hu) ha).weaken fun v σ H Q ⟨m, ρ, h, d, hr, er, vd, hp⟩ => ?_
  have hp' : postG G σ [] m H Q ((evE F o' ρ h).nx.bind fun x h => (evE F i' ρ h).nx.bind fun y h => (setop x y d h).bind fun _ h => .ok ρ h) := hp
  refine ⟨m, ρ, h, hr, er, ?_⟩
  cases q : evE F o' ρ h with
  | stk => rw [q] at hp'; exact hp'
  | exc c h' => rw [q] at hp'; exact hp'.elim
  | ok x h1 =>
    rw [q] at hp'
    intro m1 v1 H1 e1 hr1 vd1
    refine ⟨m1, ρ, h1, hr1, er.mono e1, ?_⟩
    have hp1 : postG G σ [] m H Q ((evE F i' ρ h1).nx.bind fun y h => (setop x y d h).bind fun _ h => .ok ρ h) := hp'
    cases q2 : evE F i' ρ h1 with
    | stk => rw [q2] at hp1; exact hp1
    | exc c h' => rw [q2] at hp1; exact hp1.elim
    | ok y h2 =>
      rw [q2] at hp1
      have hp2 : postG G σ [] m H Q ((setop x y d h2).bind fun _ h => .ok ρ h) := hp1
      intro m2 v2 H2 e2 hr2 vd2
      refine ⟨m2, x, y, d, h2, hr2, vd1.mono e2, vd2, vd.mono (e1.trans e2), ?_⟩
      cases q3 : setop x y d h2 with
      | stk => rw [q3] at hp2; exact hp2
      | exc c h' => rw [q3] at hp2; exact hp2.elim
      | ok z h3 =>
        rw [q3] at hp2
        intro m3 H3 e3 hr3
        have e := e1.trans (e2.trans e3)
        exact hp2 m3 σ H3 e hr3 (er.mono e) .refl

/-! ### what is walked -/
/-- J yields the items of w, as long as the places that it keeps stand -/
def Serves (G : Gm) (J : It) (w : Walk) (m1 : List Addr) (H1 : Hp) (h1 : PH) : Prop :=
  ∀ i m H h, Ext G.K m1 H1 m H → HR G m h H → kept h1 h w.keep = true →
    (∀ d, w.items[i]? = some d → J.go i H ∧ ∀ x H', J.yld i H x H' → Ext G.K m H m H' ∧ HR G m h H' ∧ VD G m H' x d) ∧ (w.items.length = i → J.stop i H)
def postI (G : Gm) (W : WX) (σ : L2.St) (m : List Addr) (H : Hp) (R : It → Hp → Prop) : Res Walk → Prop
  | .ok w h' => ∀ m' H' J, Ext G.K m H m' H' → HR G m' h' H' → Serves G J w m' H' h' → R J H'
  | .exc c h' => ∀ m' H', Ext G.K m H m' H' → HR G m' h' H' → W (G.xa c) none σ H'
  | .stk => False
def tI (G : Gm) (W : WX) (F : Fns) (i : Mp.Iw) : TI := fun σ H R => ∃ m ρ h, HR G m h H ∧ ER G m H σ ρ ∧ postI G W σ m H R (evI F i ρ h)
theorem _root_.L2.PI.weaken {X : Cx} {tg e : Expr} {t t' : TI} (p : PI X tg e t) (h : ∀ σ H Q, t' σ H Q → t σ H Q) : PI X tg e t' := ⟨fun pins s σ H R I q => p.run pins s σ H R I (h σ H R q)⟩
theorem postI_ext {R : It → Hp → Prop} {r : Res Walk} (e : Ext G.K m H m' H') (p : postI G W σ m H R r) : postI G W σ m' H' R r := by
  cases r with
  | ok ρ h' => exact fun m2 H2 J e2 => p m2 H2 J (e.trans e2)
  | exc c h' => exact fun m2 H2 e2 => p m2 H2 (e.trans e2)
  | stk => exact p
theorem postI_bind {R : It → Hp → Prop} {r : Res D} {f : D → PH → Res Walk} (p : postI G W σ m H R (r.bind f)) :
    post G W σ m H (fun v H1 => ∃ m1 d h1, Ext G.K m H m1 H1 ∧ HR G m1 h1 H1 ∧ VD G m1 H1 v d ∧ postI G W σ m1 H1 R (f d h1)) r := by
  cases r with
  | ok d h' => exact fun m1 v H1 e hr vd => ⟨m1, d, h', e, hr, vd, postI_ext e p⟩
  | exc c h' => exact p
  | stk => exact p
theorem kept_at {h1 h : PH} {ls : List Nat} {l : Nat} (k : kept h1 h ls = true) (hl : l ∈ ls) : h1[l]? = h[l]? := by
  unfold kept at k
  exact of_decide_eq_true (List.all_eq_true.mp k l hl)
/-- the list at a stands, as long as the places in ls stand -/
def Stays (G : Gm) (ls : List Nat) (a : Addr) (ds : List D) (m1 : List Addr) (H1 : Hp) (h1 : PH) : Prop :=
  ∀ m H h, Ext G.K m1 H1 m H → HR G m h H → kept h1 h ls = true → ∃ vs, SqL G.K H a vs ∧ VDs G m H vs ds
theorem stays_of {h1 : PH} {v : V} {d : D} {ds : List D} {m1 : List Addr} {H1 : Hp} (hr1 : HR G m1 h1 H1) (vd : VD G m1 H1 v d) (e : lstOf h1 d = some ds) : ∃ a vs, v = .ref a ∧ SqL G.K H1 a vs ∧ Stays G (locs d) a ds m1 H1 h1 := by
  obtain ⟨a, vs, rfl, q1, q2⟩ := lst_of hr1 vd e
  refine ⟨a, vs, rfl, q1, fun m H h ex hr k => ?_⟩
  cases vd with
  | scr x y => cases e; exact ⟨_, (ex.frz _ _ x).sq, y.mono ex⟩
  | @ref a l hl =>
    have e2 : lstOf h (.ref l) = some ds := by
      have q : lstOf h1 (.ref l) = some ds := e
      simp only [lstOf] at q ⊢
      rw [← kept_at k (l := l) (by simp [locs])]
      exact q
    obtain ⟨a', vs', q1, q4, q5⟩ := lst_of hr (VD.ref (ex.get hl)) e2
    cases q1
    exact ⟨vs', q4, q5⟩
  | _ => cases e
theorem kept_app {h1 h : PH} {ls ls' : List Nat} (k : kept h1 h (ls ++ ls') = true) : kept h1 h ls = true ∧ kept h1 h ls' = true := by
  unfold kept at k ⊢
  rw [List.all_append, Bool.and_eq_true] at k
  exact k
theorem serves_lst {h1 : PH} {a : Addr} {ds : List D} {m1 : List Addr} {H1 : Hp} {ls : List Nat} (st : Stays G ls a ds m1 H1 h1) : Serves G (Itl G.K a) ⟨ds, ls⟩ m1 H1 h1 := by
  intro i m H h ex hr k
  obtain ⟨vs, q1, q2⟩ := st m H h ex hr k
  refine ⟨fun d hd => ?_, fun hi => ?_⟩
  · obtain ⟨v, hv, vd⟩ := q2.get hd
    refine ⟨⟨vs, v, q1, hv⟩, fun x H' ⟨e1, y⟩ => ?_⟩
    subst e1
    have := y vs q1
    rw [hv] at this
    cases this
    exact ⟨.refl, hr, vd⟩
  · exact ⟨vs, q1, by rw [q2.len]; exact Nat.le_of_eq hi⟩
theorem serves_tup {h1 : PH} {a : Addr} {vs : List V} {ds : List D} {m1 : List Addr} {H1 : Hp} (ht : SqT G.K H1 a vs) (hv : VDs G m1 H1 vs ds) : Serves G (Itt G.K a) ⟨ds, []⟩ m1 H1 h1 := by
  intro i m H h ex hr k
  have q1 := ex.tups _ _ ht
  have q2 := hv.mono ex
  refine ⟨fun d hd => ?_, fun hi => ?_⟩
  · obtain ⟨v, hv, vd⟩ := q2.get hd
    refine ⟨⟨vs, v, q1, hv⟩, fun x H' ⟨e1, y⟩ => ?_⟩
    subst e1
    have := y vs q1
    rw [hv] at this
    cases this
    exact ⟨.refl, hr, vd⟩
  · exact ⟨vs, q1, by rw [q2.len]; exact Nat.le_of_eq hi⟩
theorem serves_rng {h1 : PH} {lo : Int} {n : Nat} {m1 : List Addr} {H1 : Hp} : Serves G (Itr lo n) ⟨rngD lo n, []⟩ m1 H1 h1 := by
  intro i m H h ex hr k
  refine ⟨fun d hd => ?_, fun hi => ?_⟩
  · have hlt : i < n := by
      have := (List.getElem?_eq_some_iff.mp hd).1
      simpa [rngD] using this
    refine ⟨hlt, fun x H' ⟨e1, e2⟩ => ?_⟩
    subst e1 e2
    have hd' : (rngD lo n)[i]? = some d := hd
    have : d = .int (lo + (i : Int)) := by
      unfold rngD at hd'
      rw [List.getElem?_map, List.getElem?_range hlt] at hd'
      exact (Option.some.inj hd').symm
    subst this
    exact ⟨.refl, hr, .int _⟩
  · have : n = i := by simpa [rngD] using hi
    exact Nat.le_of_eq this
theorem enumD_get : ∀ (ds : List D) (k i : Nat), (enumD k ds)[i]? = (ds[i]?).map fun d => .tup [.int ((k + i : Nat) : Int), d]
  | [], k, i => by simp [enumD]
  | d :: ds, k, 0 => by simp [enumD]
  | d :: ds, k, i + 1 => by
    have := enumD_get ds (k + 1) i
    simp only [enumD, List.getElem?_cons_succ, this]
    have e : k + 1 + i = k + (i + 1) := by omega
    rw [e]
theorem enumD_len : ∀ (ds : List D) (k : Nat), (enumD k ds).length = ds.length
  | [], _ => rfl
  | d :: ds, k => by simp [enumD, enumD_len ds]
theorem zipD_get : ∀ (as bs : List D) (i : Nat) (d : D), (zipD as bs)[i]? = some d → ∃ a b, as[i]? = some a ∧ bs[i]? = some b ∧ d = .tup [a, b]
  | [], bs, i, d, h => by simp [zipD] at h
  | a :: as, [], i, d, h => by simp [zipD] at h
  | a :: as, b :: bs, 0, d, h => by simp [zipD] at h; exact ⟨a, b, rfl, rfl, h.symm⟩
  | a :: as, b :: bs, i + 1, d, h => by
    simp only [zipD, List.getElem?_cons_succ] at h
    obtain ⟨x, y, q1, q2, q3⟩ := zipD_get as bs i d h
    exact ⟨x, y, by simpa using q1, by simpa using q2, q3⟩
theorem zipD_len : ∀ (as bs : List D), (zipD as bs).length = min as.length bs.length
  | [], bs => by simp [zipD]
  | a :: as, [] => by simp [zipD]
  | a :: as, b :: bs => by simp [zipD, zipD_len as bs]
theorem serves_enum {h1 : PH} {a : Addr} {ds : List D} {m1 : List Addr} {H1 : Hp} {ls : List Nat} (st : Stays G ls a ds m1 H1 h1) : Serves G (Ite G.K a) ⟨enumD 0 ds, ls⟩ m1 H1 h1 := by
  intro i m H h ex hr k
  obtain ⟨vs, q1, q2⟩ := st m H h ex hr k
  refine ⟨fun d hd => ?_, fun hi => ?_⟩
  · have hd' : (enumD 0 ds)[i]? = some d := hd
    rw [enumD_get] at hd'
    cases hds : ds[i]? with
    | none => rw [hds] at hd'; cases hd'
    | some z =>
      rw [hds] at hd'
      simp only [Option.map_some, Option.some.injEq, Nat.zero_add] at hd'
      subst hd'
      obtain ⟨v, hv, vd⟩ := q2.get hds
      refine ⟨⟨vs, v, q1, hv⟩, fun x H' ⟨T, y, e1, e2, e3, e4⟩ => ?_⟩
      subst e1 e3
      have := e4 vs q1
      rw [hv] at this
      cases this
      have ee : Ext G.K m H m (upd H T (.tup [.int (i : Nat), v])) := ext_tup e2
      exact ⟨ee, hr.tup e2, .tup (.inl (.inl upd_same)) (.cons (.int _) (.cons (vd.mono ee) .nil))⟩
  · have hi' : (enumD 0 ds).length = i := hi
    rw [enumD_len] at hi'
    exact ⟨vs, q1, by rw [q2.len]; exact Nat.le_of_eq hi'⟩
theorem serves_zip {h1 : PH} {a b : Addr} {ds es : List D} {m1 : List Addr} {H1 : Hp} {ls ls' : List Nat} (st : Stays G ls a ds m1 H1 h1) (st2 : Stays G ls' b es m1 H1 h1) :
    Serves G (Itz G.K a b) ⟨zipD ds es, ls ++ ls'⟩ m1 H1 h1 := by
  intro i m H h ex hr k
  obtain ⟨k1, k2⟩ := kept_app k
  obtain ⟨vs, q1, q2⟩ := st m H h ex hr k1
  obtain ⟨ws, q3, q4⟩ := st2 m H h ex hr k2
  refine ⟨fun d hd => ?_, fun hi => ?_⟩
  · obtain ⟨x, y, z1, z2, rfl⟩ := zipD_get ds es i d hd
    obtain ⟨v, hv, vd⟩ := q2.get z1
    obtain ⟨u, hu, ud⟩ := q4.get z2
    refine ⟨⟨vs, ws, v, u, q1, q3, hv, hu⟩, fun x H' ⟨T, y, z, e1, e2, e3, e4, e5⟩ => ?_⟩
    subst e1 e3
    have := e4 vs q1
    rw [hv] at this
    cases this
    have := e5 ws q3
    rw [hu] at this
    cases this
    have ee : Ext G.K m H m (upd H T (.tup [v, u])) := ext_tup e2
    exact ⟨ee, hr.tup e2, .tup (.inl (.inl upd_same)) (.cons (vd.mono ee) (.cons (ud.mono ee) .nil))⟩
  · have hi' : (zipD ds es).length = i := hi
    rw [zipD_len] at hi'
    refine ⟨vs, ws, q1, q3, ?_⟩
    rw [q2.len, q4.len]
    omega
theorem serves_zipT {h1 : PH} {a b : Addr} {vs ws : List V} {ds es : List D} {m1 : List Addr} {H1 : Hp} {ls : List Nat} (q1 : SqT G.K H1 a vs) (q2 : VDs G m1 H1 vs ds) (q3 : SqT G.K H1 b ws) (q4 : VDs G m1 H1 ws es) :
    Serves G (RZ.ItzT G.K a b) ⟨zipD ds es, ls⟩ m1 H1 h1 := by
  intro i m H h ex hr k
  have q1 := ex.tups _ _ q1
  have q3 := ex.tups _ _ q3
  have q2 := q2.mono ex
  have q4 := q4.mono ex
  refine ⟨fun d hd => ?_, fun hi => ?_⟩
  · obtain ⟨x, y, z1, z2, rfl⟩ := zipD_get ds es i d hd
    obtain ⟨v, hv, vd⟩ := q2.get z1
    obtain ⟨u, hu, ud⟩ := q4.get z2
    refine ⟨⟨vs, ws, v, u, q1, q3, hv, hu⟩, fun x H' ⟨T, y, z, e1, e2, e3, e4, e5⟩ => ?_⟩
    subst e1 e3
    have := e4 vs q1
    rw [hv] at this
    cases this
    have := e5 ws q3
    rw [hu] at this
    cases this
    have ee : Ext G.K m H m (upd H T (.tup [v, u])) := ext_tup e2
    exact ⟨ee, hr.tup e2, .tup (.inl (.inl upd_same)) (.cons (vd.mono ee) (.cons (ud.mono ee) .nil))⟩
  · have hi' : (zipD ds es).length = i := hi
    rw [zipD_len] at hi'
    refine ⟨vs, ws, q1, q3, ?_⟩
    rw [q2.len, q4.len]
    omega
end
end Mp

set_option Elab.async false
set_option linter.all false
set_option maxRecDepth 100000
set_option maxHeartbeats 1000000
/-! C8: loops, comprehensions, statements. -/
namespace Mp
open PySem PySem.Spec PyProof.Rows L2
section
variable {G : Gm} {W : WX} {F : Fns} {X : Cx} {m m' : List Addr} {H H' : Hp} {h h' : PH} {σ : L2.St} {ρ : Env} {tg l e f : Expr} {l' e' f' : Ex} {tl : TE} {pos tpos p : Pos} {elts : List Expr} {kk : Nat}
theorem serves_str {h1 : PH} {x : Str} {m1 : List Addr} {H1 : Hp} : Serves G (Its x) ⟨signs x, []⟩ m1 H1 h1 := by
  intro i m H h ex hr k
  have hlen : (signs x).length = x.cps.size := by simp [signs]
  refine ⟨fun d hd => ?_, fun hi => ?_⟩
  · have hd' : (signs x)[i]? = some d := hd
    have hlt : i < x.cps.size := by rw [← hlen]; exact (List.getElem?_eq_some_iff.mp hd').1
    refine ⟨hlt, fun v H' ⟨e1, c, e2, e3⟩ => ?_⟩
    subst e1 e3
    unfold signs at hd'
    rw [List.getElem?_map, Array.getElem?_toList, e2] at hd'
    cases hd'
    exact ⟨.refl, hr, .str _⟩
  · have hi' : (signs x).length = i := hi
    show x.cps.size ≤ i
    omega
theorem pi_seq (hl : PE X l tl) : PI X tg l (fun σ H R => tl σ H fun x H1 => (∃ a, x = .ref a ∧ (∃ xs, SqL X.K H1 a xs) ∧ R (Itl X.K a) H1) ∨ (∃ a, x = .ref a ∧ (∃ xs, SqT X.K H1 a xs) ∧ R (Itt X.K a) H1) ∨ ∃ z, x = .str z ∧ R (Its z) H1) := by
  refine ⟨fun pins s σ H R I h => ?_⟩
  refine thn (hl.run pins s σ H _ I h) fun v s1 ⟨x, H1, I1, r1, q1⟩ => ?_
  rcases q1 with ⟨a, e, ⟨xs, hq⟩, q⟩ | ⟨a, e, ⟨xs, hq⟩, q⟩ | ⟨z, e, q⟩
  · subst e
    cases r1
    obtain ⟨its, rv, p, hz⟩ := I1.list hq
    refine wpAny_pyIter_list p.isList ?_
    refine ⟨s1.heap.objs.size, [s1.heap.objs.size], _, _, H1, rfl, I1.kept (t' := s1.toks) fun b o e => Heap.get?_push_of_some _ e, turn_list a _, ⟨_, Heap.get?_push_size _ rfl, rfl, rfl⟩, fun b hb => ?_, q⟩
    have e : b = s1.heap.objs.size := by simpa using hb
    subst e
    exact I1.fpOk (Nat.le_refl _) (I1.hok.fresh (Nat.le_refl _))
  · subst e
    cases r1
    obtain ⟨its, rv, p, hz⟩ := I1.tuple hq
    refine wpAny_pyIter_tuple (show s1.heap.IsTuple a its.toArray from p) ?_
    refine ⟨s1.heap.objs.size, [s1.heap.objs.size], _, _, H1, rfl, I1.kept (t' := s1.toks) fun b o e => Heap.get?_push_of_some _ e, turn_tuple a _, ⟨_, Heap.get?_push_size _ rfl, rfl, rfl⟩, fun b hb => ?_, q⟩
    have e : b = s1.heap.objs.size := by simpa using hb
    subst e
    exact I1.fpOk (Nat.le_refl _) (I1.hok.fresh (Nat.le_refl _))
  · subst e
    obtain ⟨t, rfl⟩ := r1
    cases ha : z.cps.all (· < 128)
    · exact wpAny_pyIter_wide ha (pi_one (tk := s1.toks) I1 _ (turn_str _ z t "str_iterator" (.inr rfl)) ⟨_, Heap.get?_push_size _ rfl, rfl, rfl⟩ q)
    · exact wpAny_pyIter_ascii ha (pi_one (tk := s1.toks) I1 _ (turn_str _ z t "str_ascii_iterator" (.inl rfl)) ⟨_, Heap.get?_push_size _ rfl, rfl, rfl⟩ q)
theorem ri_stk : PI X tg l (tI G W F .stk) := ⟨fun pins s σ H R I ⟨m, ρ, h, hr, er, hp⟩ => hp.elim⟩
theorem ri_seq (hK : X.K = G.K) (hl : PE X l (tE G W F l')) : PI X tg l (tI G W F (.seq l')) := by
  refine (pi_seq hl).weaken fun σ H R ⟨m, ρ, h, hr, er, hp⟩ => ?_
  refine ⟨m, ρ, h, hr, er, post_imp (postI_bind hp) fun v H1 ⟨m1, d1, h1, e1, hr1, vd1, hp1⟩ => ?_⟩
  cases d1 with
  | str z =>
    cases vd1
    have hp2 : postI G W σ m1 H1 R (.ok ⟨signs z, []⟩ h1) := hp1
    exact .inr (.inr ⟨z, rfl, hp2 m1 H1 _ .refl hr1 serves_str⟩)
  | tup ds =>
    cases vd1 with
    | tup ta xa =>
      have hp2 : postI G W σ m1 H1 R (.ok ⟨ds, []⟩ h1) := hp1
      exact .inr (.inl ⟨_, rfl, ⟨_, hK ▸ ta⟩, hp2 m1 H1 _ .refl hr1 (hK ▸ serves_tup ta xa)⟩)
  | ref l =>
    have hp2 : postI G W σ m1 H1 R (match seqOf h1 (.ref l) with
      | some ds => .ok ⟨ds, locs (.ref l)⟩ h1
      | none => .stk) := hp1
    cases q : seqOf h1 (.ref l) with
    | none => rw [q] at hp2; exact hp2.elim
    | some ds =>
      rw [q] at hp2
      obtain ⟨a, vs, rfl, hsq, st⟩ := stays_of hr1 vd1 (show lstOf h1 (.ref l) = some ds from q)
      exact .inl ⟨_, rfl, ⟨_, hK ▸ hsq⟩, hp2 m1 H1 _ .refl hr1 (hK ▸ serves_lst st)⟩
  | scr ds =>
    have hp2 : postI G W σ m1 H1 R (.ok ⟨ds, []⟩ h1) := hp1
    obtain ⟨a, vs, rfl, hsq, st⟩ := stays_of hr1 vd1 (show lstOf h1 (.scr ds) = some ds from rfl)
    exact .inl ⟨_, rfl, ⟨_, hK ▸ hsq⟩, hp2 m1 H1 _ .refl hr1 (hK ▸ serves_lst st)⟩
  | _ => exact hp1.elim
theorem ri_rng1 (hg : Gl X "range") (hm : X.mg "range" = none) (he : PE X e (tE G W F e')) (hs : starEach [e] X.env = [(false, eval e X.env)]) : PI X tg (.Call (.Name "range" p) [e] [] pos) (tI G W F (.rng1 e')) := by
  refine (pi_range1 hg hm (pa_cons he pa_nil (by rw [hs]; rfl)) hs).weaken fun σ H R ⟨m, ρ, h, hr, er, hp⟩ => ?_
  refine ⟨m, ρ, h, hr, er, post_imp (postI_bind hp) fun v H1 ⟨m1, d1, h1, e1, hr1, vd1, hp1⟩ => ?_⟩
  cases d1 with
  | int j =>
    cases vd1
    have hp2 : postI G W σ m1 H1 R (rngW 0 j h1) := hp1
    unfold rngW at hp2
    split at hp2
    · rename_i c
      refine ⟨j, rfl, c.2.2.1, c.2.2.2, ?_⟩
      have e0 : (j - 0).toNat = j.toNat := by rw [Int.sub_zero]
      rw [e0] at hp2
      exact hp2 m1 H1 _ .refl hr1 serves_rng
    · exact hp2.elim
  | _ => exact hp1.elim
theorem ri_rng2 (hg : Gl X "range") (hm : X.mg "range" = none) (he : PE X e (tE G W F e')) (hf : PE X f (tE G W F f')) (hs : starEach [e, f] X.env = [(false, eval e X.env), (false, eval f X.env)]) (hs2 : starEach [f] X.env = [(false, eval f X.env)]) :
    PI X tg (.Call (.Name "range" p) [e, f] [] pos) (tI G W F (.rng2 e' f')) := by
  refine (pi_range2 hg hm (pa_cons he (pa_cons hf pa_nil (by rw [hs2]; rfl)) (by rw [hs, hs2])) (by rw [hs]) hs2).weaken fun σ H R ⟨m, ρ, h, hr, er, hp⟩ => ?_
  refine ⟨m, ρ, h, hr, er, post_imp (postI_bind hp) fun v H1 ⟨m1, d1, h1, e1, hr1, vd1, hp1⟩ => ?_⟩
  refine ⟨m1, ρ, h1, hr1, er.mono e1, post_imp (postI_bind hp1) fun u H2 ⟨m2, d2, h2, e2, hr2, vd2, hp2⟩ => ?_⟩
  cases d1 with
  | int i =>
    cases d2 with
    | int j =>
      cases vd1
      cases vd2
      have hp3 : postI G W σ m2 H2 R (rngW i j h2) := hp2
      unfold rngW at hp3
      split at hp3
      · rename_i c
        exact ⟨i, j, rfl, c, hp3 m2 H2 _ .refl hr2 serves_rng⟩
      · exact hp3.elim
    | _ => exact hp2.elim
  | _ => exact hp2.elim
theorem ri_enum (hK : X.K = G.K) (hg : Gl X "enumerate") (hm : X.mg "enumerate" = none) (he : PE X e (tE G W F e')) (hs : starEach [e] X.env = [(false, eval e X.env)]) : PI X (.Tuple elts kk tpos) (.Call (.Name "enumerate" p) [e] [] pos) (tI G W F (.enum e')) := by
  refine (pi_enum hg hm (pa_cons he pa_nil (by rw [hs]; rfl)) hs).weaken fun σ H R ⟨m, ρ, h, hr, er, hp⟩ => ?_
  refine ⟨m, ρ, h, hr, er, post_imp (postI_bind hp) fun v H1 ⟨m1, d1, h1, e1, hr1, vd1, hp1⟩ => ?_⟩
  cases q : lstOf h1 d1 with
  | none => rw [q] at hp1; exact hp1.elim
  | some ds =>
    rw [q] at hp1
    obtain ⟨a, vs, rfl, hsq, st⟩ := stays_of hr1 vd1 q
    exact ⟨a, vs, rfl, hK ▸ hsq, hp1 m1 H1 _ .refl hr1 (hK ▸ serves_enum st)⟩
theorem ri_zip (hK : X.K = G.K) (hg : Gl X "zip") (hm : X.mg "zip" = none) (he : PE X e (tE G W F e')) (hf : PE X f (tE G W F f')) (hs : starEach [e, f] X.env = [(false, eval e X.env), (false, eval f X.env)]) (hs2 : starEach [f] X.env = [(false, eval f X.env)]) :
    PI X (.Tuple elts kk tpos) (.Call (.Name "zip" p) [e, f] [] pos) (tI G W F (.zip e' f')) := by
  refine (RZ.pi_zipA hg hm (pa_cons he (pa_cons hf pa_nil (by rw [hs2]; rfl)) (by rw [hs, hs2])) (by rw [hs, hs2]) (by rw [hs2]; rfl)).weaken fun σ H R ⟨m, ρ, h, hr, er, hp⟩ => ?_
  refine ⟨m, ρ, h, hr, er, post_imp (postI_bind hp) fun v H1 ⟨m1, d1, h1, e1, hr1, vd1, hp1⟩ => ?_⟩
  refine ⟨m1, ρ, h1, hr1, er.mono e1, post_imp (postI_bind hp1) fun u H2 ⟨m2, d2, h2, e2, hr2, vd2, hp2⟩ => ?_⟩
  by_cases ht : ∃ ds es, d1 = .tup ds ∧ d2 = .tup es
  · obtain ⟨ds, es, rfl, rfl⟩ := ht
    have vd1' := vd1.mono e2
    cases vd1' with
    | tup ta xa =>
      cases vd2 with
      | tup tb xb =>
        have hp3 : postI G W σ m2 H2 R (.ok ⟨zipD ds es, []⟩ h2) := hp2
        exact ⟨_, _, _, _, rfl, .inr ⟨hK ▸ ta, hK ▸ tb, hp3 m2 H2 _ .refl hr2 (hK ▸ serves_zipT ta xa tb xb)⟩⟩
  · have hp3 : postI G W σ m2 H2 R (match lstOf h2 d1, lstOf h2 d2 with
      | some ds, some es => .ok ⟨zipD ds es, locs d1 ++ locs d2⟩ h2
      | _, _ => .stk) := by
      cases d1 <;> first | exact hp2 | (cases d2 <;> first | exact hp2 | exact absurd ⟨_, _, rfl, rfl⟩ ht)
    cases q : lstOf h2 d1 with
    | none => rw [q] at hp3; exact hp3.elim
    | some ds =>
      cases q2 : lstOf h2 d2 with
      | none => rw [q, q2] at hp3; exact hp3.elim
      | some es =>
        rw [q, q2] at hp3
        obtain ⟨a, vs, rfl, hsq, st⟩ := stays_of hr2 (vd1.mono e2) q
        obtain ⟨b, ws, rfl, hsq3, st3⟩ := stays_of hr2 vd2 q2
        exact ⟨a, b, vs, ws, rfl, .inl ⟨hK ▸ hsq, hK ▸ hsq3, hp3 m2 H2 _ .refl hr2 (hK ▸ serves_zip st st3)⟩⟩

/-! ### list comprehensions -/
theorem ext_add {K : PySem.W.Frag} {p : Addr} (e : Ext K m H m' H') (hn : H p = none) : Ext K m H (m' ++ [p]) H' := by
  obtain ⟨r, hr⟩ := e.pre
  refine ⟨⟨r ++ [p], by rw [hr, List.append_assoc]⟩, e.tups, e.frz, e.fr, fun a h h' => ?_⟩
  rcases List.mem_append.mp h with q | q
  · exact e.new a q h'
  · rw [List.mem_singleton.mp q]; exact hn
/-- a list beside the tracked ones is changed -/
theorem ext_side {K : PySem.W.Frag} {p : Addr} {u : HO} (e : Ext K m H m' H') (hn : H p = none) (hw : Wr H' p) : Ext K m H m' (upd H' p u) := by
  refine ⟨e.pre, fun a xs q => tups_upd hw a xs (e.tups a xs q), fun a xs q => frz_upd hw a xs (e.frz a xs q), fun a h h' => ?_, e.new⟩
  rw [upd_ne (by rintro rfl; exact h' hn)]
  exact e.fr a h h'
/-- the relation where H changes beside, or m grows beside -/
theorem OR.mono2 {a : Addr} {o : O} (x : OR G m H a o) (hp : ∀ {l : Nat} {x : Addr}, m[l]? = some x → m'[l]? = some x) (ht : ∀ a xs, SqT G.K H a xs → SqT G.K H' a xs) (hf : ∀ a xs, SqF G.K H a xs → SqF G.K H' a xs)
    (h1 : H' a = H a) (h2 : ∀ dx, H dx = some (.own a) → H' dx = some (.own a)) : OR G m' H' a o := by
  cases o with
  | lst ds => obtain ⟨vs, a1, a2⟩ := x; exact ⟨vs, h1.trans a1, a2.mono2 hp ht hf⟩
  | dct kvs =>
    obtain ⟨ks, a1, a2⟩ := x
    refine ⟨ks, h1.trans a1, ?_⟩
    clear a1
    induction a2 with
    | nil => exact .nil
    | cons y _ ih => exact .cons (y.mono2 hp ht hf) ih
  | tdc kvs =>
    obtain ⟨ks, a1, a2, a3⟩ := x
    refine ⟨ks, h1.trans a1, ?_, a3⟩
    clear a1 a3
    induction a2 with
    | nil => exact .nil
    | cons k y r z _ ih => exact .cons k (y.mono2 hp ht hf) r (z.mono2 hp ht hf) ih
  | ins c fs =>
    obtain ⟨dx, vs, a1, a2, a3⟩ := x
    refine ⟨dx, vs, h1.trans a1, h2 dx a2, ?_⟩
    clear a1
    induction a3 with
    | nil => exact .nil
    | cons y _ ih => exact .cons (y.mono2 hp ht hf) ih
theorem HR.side {p : Addr} {u : HO} (r : HR G m h H) (hw : Wr H p) (hn : p ∉ m) : HR G m h (upd H p u) := by
  refine ⟨r.len, r.nd, fun l a o ea eo => ?_⟩
  have hne : a ≠ p := by rintro rfl; exact hn (List.mem_of_getElem? ea)
  refine (r.obj l a o ea eo).mono2 (fun h => h) (tups_upd hw) (frz_upd hw) (upd_ne hne) fun dx e => ?_
  rw [upd_ne ?_]
  · exact e
  · rintro rfl
    rcases hw with z | ⟨u, z, _, _, h3⟩
    · rw [z] at e; cases e
    · rw [z] at e; cases e; exact h3 _ rfl
theorem HR.add {p : Addr} {vs : List V} {ds : List D} (r : HR G m h H) (hp : H p = some (.lst vs)) (hn : p ∉ m) (hv : VDs G m H vs ds) : HR G (m ++ [p]) (h ++ [.lst ds]) H := by
  have get : ∀ {l : Nat} {x : Addr}, m[l]? = some x → (m ++ [p])[l]? = some x := fun {l x} q => by rw [List.getElem?_append_left (List.getElem?_eq_some_iff.mp q).1]; exact q
  refine ⟨by simp [r.len], nd_snoc r.nd hn, fun l a o' ea eo => ?_⟩
  rcases snoc_get r.len ea eo with ⟨a1, a2⟩ | ⟨a1, a2, a3⟩
  · exact (r.obj l a o' a1 a2).mono2 get (fun _ _ z => z) (fun _ _ z => z) rfl fun _ z => z
  · subst a2 a3
    exact ⟨vs, hp, hv.mono2 get (fun _ _ z => z) fun _ _ z => z⟩
theorem wipe_get {σ : L2.St} {j : Nat} : ∀ {vs : List Nat}, (L2.wipe σ vs)[j]? = if j ∈ vs then (σ[j]?).map fun _ => none else σ[j]?
  | [] => by simp [L2.wipe]
  | v :: vs => by
    unfold L2.wipe
    by_cases hj : v = j
    · subst hj
      rw [List.getElem?_set]
      have hl := L2.wipe_length σ vs
      by_cases hv : v < σ.length
      · simp [hl, hv]
      · simp [hl, hv]
    · rw [List.getElem?_set_ne hj, wipe_get]
      have : (j ∈ v :: vs) ↔ j ∈ vs := by simp [Ne.symm hj]
      simp only [this]
theorem wipeE_get {ρ : Env} {j : Nat} : ∀ {vs : List Nat}, (wipeE ρ vs)[j]? = if j ∈ vs then (ρ[j]?).map fun _ => none else ρ[j]?
  | [] => by simp [wipeE]
  | v :: vs => by
    unfold wipeE
    have hl : ∀ vs : List Nat, (wipeE ρ vs).length = ρ.length := fun vs => by
      induction vs with
      | nil => rfl
      | cons a r ih => simp [wipeE, ih]
    by_cases hj : v = j
    · subst hj
      rw [List.getElem?_set]
      by_cases hv : v < ρ.length
      · simp [hl, hv]
      · simp [hl, hv]
    · rw [List.getElem?_set_ne hj, wipeE_get]
      have : (j ∈ v :: vs) ↔ j ∈ vs := by simp [Ne.symm hj]
      simp only [this]
theorem ER.wipe (er : ER G m H σ ρ) (vs : List Nat) : ER G m H (L2.wipe σ vs) (wipeE ρ vs) := by
  refine ⟨?_, fun i d q => ?_⟩
  · have hl : ∀ vs : List Nat, (wipeE ρ vs).length = ρ.length := fun vs => by
      induction vs with
      | nil => rfl
      | cons a r ih => simp [wipeE, ih]
    rw [L2.wipe_length, hl, er.1]
  · rw [wipeE_get] at q
    by_cases hi : i ∈ vs
    · rw [if_pos hi] at q
      cases z : ρ[i]? <;> rw [z] at q <;> cases q
    · rw [if_neg hi] at q
      obtain ⟨v, q1, q2⟩ := er.2 i d q
      exact ⟨v, by rw [wipe_get, if_neg hi]; exact q1, q2⟩
theorem wipe_only {σ' : L2.St} {ls vs : List Nat} (o : OnlyS (L2.wipe σ vs) σ' ls) (h : ∀ i ∈ ls, i ∈ vs) : L2.wipe σ' vs = L2.wipe σ vs := by
  have hl : σ'.length = σ.length := o.1.trans (L2.wipe_length σ vs)
  apply List.ext_getElem?
  intro j
  rw [wipe_get, wipe_get]
  by_cases hj : j ∈ vs
  · rw [if_pos hj, if_pos hj]
    by_cases hb : j < σ.length
    · have h1 : j < σ'.length := by omega
      simp [hb, h1]
    · rw [List.getElem?_eq_none (by omega), List.getElem?_eq_none (by omega)]
  · rw [if_neg hj, if_neg hj]
    have := o.2 j fun z => hj (h j z)
    rw [this, wipe_get, if_neg hj]
/-- a comprehension's tests -/
def tC' (G : Gm) (F : Fns) (cs : Exs) : TT := fun σ H Q => ∃ m ρ h, HR G m h H ∧ ER G m H σ ρ ∧ postR G (fun _ _ _ _ => False) σ m H Q (evC F cs ρ h)
theorem rc_nil {X : Cx} : PTs X [] (tC' G F .nil) := ⟨fun pins s σ H Q I ⟨m, ρ, h, hr, er, hp⟩ => (pts_nil (X := X)).run pins s σ H Q I (hp m H .refl hr)⟩
theorem rc_one {X : Cx} {c : Expr} {c' : Ex} (hc : PT X c (tT G (fun _ _ _ _ => False) F c')) : PTs X [c] (tC' G F (.cons c' .nil)) := ⟨fun pins s σ H Q I ⟨m, ρ, h, hr, er, hp⟩ => (pts_one hc).run pins s σ H Q I ⟨m, ρ, h, hr, er, hp⟩⟩
theorem rc_stk {X : Cx} {ifs : List Expr} {a b : Ex} {r : Exs} : PTs X ifs (tC' G F (.cons a (.cons b r))) := ⟨fun pins s σ H Q I ⟨m, ρ, h, hr, er, hp⟩ => hp.elim⟩
abbrev W0 : WX := fun _ _ _ _ => False
theorem r_lc {elt iter : Expr} {ifs : List Expr} {scope : Scope} {own : List (Str × Nat)} {i' : Iw} {t' : Tg} {cs' : Exs} (hc : X.calm = true) (hN : X.N.Nodup) (hi : PI X tg iter (tI G W F i')) (ok : BlkOk X.N X.env.scope scope own)
    (hg : ∀ (s : Shared) (H : Hp) (C : Addr) (cl : List (Str × Addr)) (fp : List Addr), PG (X.blk s H scope (compEnvC scope cl C X.env) fp) tg (tG G F t')) (ht : ∀ (s : Shared) (H : Hp) (C : Addr) (cl : List (Str × Addr)) (fp : List Addr), PTs (X.blk s H scope (compEnvC scope cl C X.env) fp) ifs (tC' G F cs'))
    (he : ∀ (s : Shared) (H : Hp) (C : Addr) (cl : List (Str × Addr)) (fp : List Addr), PE (X.blk s H scope (compEnvC scope cl C X.env) fp) elt (tE G W0 F e')) (hs : ∀ x, foldedSetIterable iter X.env x = pure x) (hw : ∀ i ∈ tgS t', i ∈ own.map (·.2)) :
    ∀ σ H Q, tE G W F (.lc e' t' i' cs' (own.map (·.2))) σ H Q → tLc (tI G W F i') (tG G F t') (tC' G F cs') (tE G W0 F e') (own.map (·.2)) σ H Q := by
  intro σ H Q ⟨m, ρ, h, hr, er, hp⟩
  refine ⟨m, ρ, h, hr, er, ?_⟩
  generalize hvs : own.map (·.2) = vs at hp hw ⊢
  generalize htn : (fun x h => (evT F t' x (wipeE ρ vs) h).bind fun ρ' h => (evC F cs' ρ' h).bind fun b h => if b = true then (evE F e' ρ' h).bind fun d h => Res.ok (some d) h else Res.ok none h : D → PH → Res (Option D)) = turn
  have hp : post G W σ m H Q ((evI F i' ρ h).bind fun w h => (lcS turn (fun h' => kept h h' w.keep) w.items [] h).bind fun ds h => newL ds h) := by rw [← htn]; exact hp
  cases q : evI F i' ρ h with
  | stk => rw [q] at hp; exact hp
  | exc c h' => rw [q] at hp; exact hp
  | ok w h1 =>
    rw [q] at hp
    have hp1 : post G W σ m H Q ((lcS turn (fun h' => kept h1 h' w.keep) w.items [] h1).bind fun ds h => newL ds h) := hp
    intro m1 H1 J e1 hr1 sv Dd hn
    have er1 := er.mono e1
    have hp1 := post_ext e1 hp1
    have hnm : Dd ∉ m1 := hr1.fresh hn
    refine ⟨fun i n H2 => n = w.items.length - i ∧ i ≤ w.items.length ∧ ∃ m2 h2 acc av, Ext G.K m1 H1 m2 H2 ∧ HR G m2 h2 H2 ∧ kept h1 h2 w.keep = true ∧ H2 Dd = some (.lst av) ∧ VDs G m2 H2 av acc ∧ Dd ∉ m2 ∧
      post G W σ m1 H1 Q ((lcS turn (fun h' => kept h1 h' w.keep) (w.items.drop i) acc h2).bind fun ds h => newL ds h), ⟨_, rfl, Nat.zero_le _, m1, h1, [], [], ?_⟩, ?_⟩
    · exact ⟨ext_side .refl hn (.inl hn), hr1.side (.inl hn) hnm, by unfold kept; simp, upd_same, .nil, hnm, hp1⟩
    · rintro i n H2 ⟨rfl, hi, m2, h2, acc, av, e2, hr2, k2, hD, hv, hnm2, hp2⟩
      by_cases hlt : i < w.items.length
      · obtain ⟨hgo, hyl⟩ := (sv i m2 H2 h2 e2 hr2 k2).1 w.items[i] (by simp [hlt])
        refine .inr ⟨hgo, fun H' => _, fun H' hH' => ⟨w.items.length - (i + 1), by omega, hH'⟩, fun x H' y => ?_⟩
        obtain ⟨ee, hr', vdx⟩ := hyl x H' y
        rw [List.drop_eq_getElem_cons hlt] at hp2
        have hp3 : post G W σ m1 H1 Q ((match turn w.items[i] h2 with
          | .ok (some d) h' => if kept h1 h' w.keep = true ∧ acc.length < mx then lcS turn (fun h' => kept h1 h' w.keep) (w.items.drop (i + 1)) (acc ++ [d]) h' else .stk
          | .ok none h' => if kept h1 h' w.keep = true then lcS turn (fun h' => kept h1 h' w.keep) (w.items.drop (i + 1)) acc h' else .stk
          | .exc _ _ => .stk
          | .stk => .stk : Res (List D)).bind fun ds h => newL ds h) := hp2
        rw [← htn] at hp3
        dsimp only at hp3
        rw [htn] at hp3
        refine ⟨m2, wipeE ρ vs, h2, w.items[i], hr', (er1.mono (e2.trans ee)).wipe vs, vdx, ?_⟩
        cases q1 : evT F t' w.items[i] (wipeE ρ vs) h2 with
        | stk => rw [q1] at hp3; exact hp3
        | exc c h' => rw [q1] at hp3; exact hp3
        | ok ρ' h3 =>
          rw [q1] at hp3
          dsimp only [Res.bind] at hp3
          intro m3 σ2 H3 e3 hr3 er3 os
          refine ⟨wipe_only os hw, m3, ρ', h3, hr3, er3, ?_⟩
          cases q2 : evC F cs' ρ' h3 with
          | stk => rw [q2] at hp3; exact hp3
          | exc c h' => rw [q2] at hp3; exact hp3.elim
          | ok b h4 =>
            rw [q2] at hp3
            dsimp only [Res.bind] at hp3
            intro m4 H4 e4 hr4
            have hDH' : H' Dd = some (.lst av) := by rw [ee.fr Dd hnm2 (by rw [hD]; exact fun z => nomatch z)]; exact hD
            cases b with
            | true =>
              rw [if_pos rfl] at hp3 ⊢
              refine ⟨m4, ρ', h4, hr4, er3.mono e4, ?_⟩
              cases q3 : evE F e' ρ' h4 with
              | stk => rw [q3] at hp3; exact hp3
              | exc c h' => rw [q3] at hp3; exact hp3.elim
              | ok yd h5 =>
                rw [q3] at hp3
                dsimp only [Res.bind] at hp3
                intro m5 yv H5 e5 hr5 vd5
                have ex : Ext G.K m2 H' m5 H5 := e3.trans (e4.trans e5)
                have hD5 : H5 Dd = some (.lst av) := by rw [ex.fr Dd hnm2 (by rw [hDH']; exact fun z => nomatch z)]; exact hDH'
                have hnm5 : Dd ∉ m5 := fun z => by
                  have := ex.new Dd z hnm2
                  rw [hDH'] at this; cases this
                by_cases hk : kept h1 h5 w.keep = true ∧ acc.length < mx
                · rw [if_pos hk] at hp3
                  refine ⟨av, hD5, by rw [hv.len, ← mx_eq]; exact hk.2, rfl, hlt, m5, h5, acc ++ [yd], av ++ [yv], ext_side (e2.trans (ee.trans ex)) hn (wr_lst hD5), hr5.side (wr_lst hD5) hnm5, hk.1, upd_same, ?_, hnm5, hp3⟩
                  exact ((hv.mono (ee.trans ex)).append (.cons vd5 .nil)).mono2 (fun h => h) (tups_upd (wr_lst hD5)) (frz_upd (wr_lst hD5))
                · rw [if_neg hk] at hp3
                  exact hp3.elim
            | false =>
              rw [if_neg Bool.false_ne_true] at hp3 ⊢
              have ex : Ext G.K m2 H' m4 H4 := e3.trans e4
              have hD4 : H4 Dd = some (.lst av) := by rw [ex.fr Dd hnm2 (by rw [hDH']; exact fun z => nomatch z)]; exact hDH'
              have hnm4 : Dd ∉ m4 := fun z => by
                have := ex.new Dd z hnm2
                rw [hDH'] at this; cases this
              dsimp only at hp3
              by_cases hk : kept h1 h4 w.keep = true
              · rw [if_pos hk] at hp3
                exact ⟨rfl, hlt, m4, h4, acc, av, e2.trans (ee.trans ex), hr4, hk, hD4, hv.mono (ee.trans ex), hnm4, hp3⟩
              · rw [if_neg hk] at hp3
                exact hp3.elim
      · have e : i = w.items.length := by omega
        subst e
        refine .inl ⟨(sv _ m2 H2 h2 e2 hr2 k2).2 rfl, ?_⟩
        rw [List.drop_length] at hp2
        have hp3 : post G W σ m1 H1 Q (newL acc h2) := hp2
        refine hp3 (m2 ++ [Dd]) (.ref Dd) H2 (ext_add e2 hn) (hr2.add hD hnm2 hv) (.ref ?_)
        rw [← hr2.len, List.getElem?_append_right (Nat.le_refl _)]
        simp
end
end Mp

set_option Elab.async false
set_option linter.all false
set_option maxRecDepth 100000
set_option maxHeartbeats 1000000
/-! C9: statements. -/
namespace Mp
open PySem PySem.Spec PyProof.Rows L2
section
variable {G : Gm} {W : WX} {F : Fns} {X : Cx} {m m' : List Addr} {H H' : Hp} {h h' : PH} {σ : L2.St} {ρ : Env} {D : Ends}
/-- behind a statement -/
def postS (G : Gm) (W : WX) (m : List Addr) (H : Hp) (D : Ends) : SRes → Prop
  | .nx ρ h => ∀ m' σ' H', Ext G.K m H m' H' → HR G m' h H' → ER G m' H' σ' ρ → D.nx σ' H'
  | .rt d h => ∀ m' v H', Ext G.K m H m' H' → HR G m' h H' → VD G m' H' v d → D.rt v H'
  | .bk ρ h => ∀ m' σ' H', Ext G.K m H m' H' → HR G m' h H' → ER G m' H' σ' ρ → D.bk σ' H'
  | .ct ρ h => ∀ m' σ' H', Ext G.K m H m' H' → HR G m' h H' → ER G m' H' σ' ρ → D.ct σ' H'
  | .ex c ρ h => ∀ m' σ' H', Ext G.K m H m' H' → HR G m' h H' → ER G m' H' σ' ρ → W (G.xa c) none σ' H'
  | .stk => False
theorem postS_ext {r : SRes} (e : Ext G.K m H m' H') (p : postS G W m H D r) : postS G W m' H' D r := by
  cases r with
  | nx ρ h => exact fun m2 σ2 H2 e2 => p m2 σ2 H2 (e.trans e2)
  | rt d h => exact fun m2 σ2 H2 e2 => p m2 σ2 H2 (e.trans e2)
  | bk ρ h => exact fun m2 σ2 H2 e2 => p m2 σ2 H2 (e.trans e2)
  | ct ρ h => exact fun m2 σ2 H2 e2 => p m2 σ2 H2 (e.trans e2)
  | ex c ρ h => exact fun m2 σ2 H2 e2 => p m2 σ2 H2 (e.trans e2)
  | stk => exact p
def tS (G : Gm) (W : WX) (F : Fns) (s : Mp.St) : TS := fun D σ H => ∃ m ρ h, HR G m h H ∧ ER G m H σ ρ ∧ postS G W m H D (evS F s ρ h)
def tSs (G : Gm) (W : WX) (F : Fns) (b : Ss) : TS := fun D σ H => ∃ m ρ h, HR G m h H ∧ ER G m H σ ρ ∧ postS G W m H D (evSs F b ρ h)
theorem sb_post {r : Res Mp.D} {f : Mp.D → PH → SRes} (er : ER G m H σ ρ) (p : postS G W m H D (r.sb ρ f)) :
    post G W σ m H (fun v H1 => ∃ m1 d h1, Ext G.K m H m1 H1 ∧ HR G m1 h1 H1 ∧ VD G m1 H1 v d ∧ postS G W m1 H1 D (f d h1)) r := by
  cases r with
  | ok d h' => exact fun m1 v H1 e hr vd => ⟨m1, d, h', e, hr, vd, postS_ext e p⟩
  | exc c h' => exact fun m1 H1 e hr => p m1 σ H1 e hr (er.mono e)
  | stk => exact p
theorem sb_postR {α : Type} {r : Res α} {f : α → PH → SRes} (er : ER G m H σ ρ) (p : postS G W m H D (r.sb ρ f)) :
    postR G W σ m H (fun a H1 => ∃ m1 h1, Ext G.K m H m1 H1 ∧ HR G m1 h1 H1 ∧ postS G W m1 H1 D (f a h1)) r := by
  cases r with
  | ok d h' => exact fun m1 H1 e hr => ⟨m1, h', e, hr, postS_ext e p⟩
  | exc c h' => exact fun m1 H1 e hr => p m1 σ H1 e hr (er.mono e)
  | stk => exact p
/-- a target stores -/
theorem tgt_post {t : Tg} {d : Mp.D} {v : V} {f : Env → PH → SRes} (hr : HR G m h H) (er : ER G m H σ ρ) (vd : VD G m H v d) (p : postS G W m H D ((evT F t d ρ h).nx.sb ρ fun ρ h => f ρ h)) :
    tG G F t v σ H (fun σ' H' => ∃ m' ρ' h', Ext G.K m H m' H' ∧ HR G m' h' H' ∧ ER G m' H' σ' ρ' ∧ postS G W m' H' D (f ρ' h')) := by
  refine ⟨m, ρ, h, d, hr, er, vd, ?_⟩
  cases q : evT F t d ρ h with
  | stk => rw [q] at p; exact p
  | exc c h' => rw [q] at p; exact p.elim
  | ok ρ' h' =>
    rw [q] at p
    exact fun m' σ' H' e hr er _ => ⟨m', ρ', h', e, hr, er, postS_ext e p⟩
theorem tG_imp {t : Tg} {v : V} {Q Q' : L2.St → Hp → Prop} (p : tG G F t v σ H Q) (i : ∀ σ' H', Q σ' H' → Q' σ' H') : tG G F t v σ H Q' := by
  obtain ⟨m, ρ, h, d, hr, er, vd, p⟩ := p
  refine ⟨m, ρ, h, d, hr, er, vd, ?_⟩
  cases q : evT F t d ρ h with
  | stk => rw [q] at p; exact p
  | exc c h' => rw [q] at p; exact p
  | ok ρ' h' =>
    rw [q] at p
    exact fun m' σ' H' e hr er o => i _ _ (p m' σ' H' e hr er o)
variable {e f a b c o : Expr} {e' f' a' b' c' o' : Ex} {tg iter : Expr} {tg' : Tg} {i' : Iw} {pos pos' : Pos} {st : Stmt} {body rest els : List Stmt} {st' : Mp.St} {body' rest' els' : Ss}
theorem rs_stk : PS X st (tS G W F .stk) := ⟨fun pins s σ H D I ⟨m, ρ, h, hr, er, hp⟩ => hp.elim⟩
theorem rs_pass : PS X (.Pass pos) (tS G W F .pass) := (ps_pass (X := X)).weaken fun D σ H ⟨m, ρ, h, hr, er, hp⟩ => hp m σ H .refl hr er
theorem rs_brk : PS X (.Break pos) (tS G W F .brk) := (ps_break (X := X)).weaken fun D σ H ⟨m, ρ, h, hr, er, hp⟩ => hp m σ H .refl hr er
theorem rs_cnt : PS X (.Continue pos) (tS G W F .cnt) := (ps_continue (X := X)).weaken fun D σ H ⟨m, ρ, h, hr, er, hp⟩ => hp m σ H .refl hr er
theorem rss_nil : PSs X [] (tSs G W F .nil) := ⟨fun pins s σ H D I ⟨m, ρ, h, hr, er, hp⟩ => (pss_nil (X := X)).run pins s σ H D I (hp m σ H .refl hr er)⟩
theorem rss_cons (h1 : PS X st (tS G W F st')) (h2 : PSs X rest (tSs G W F rest')) : PSs X (st :: rest) (tSs G W F (.cons st' rest')) := by
  refine ⟨fun pins s σ H D I ⟨m, ρ, h, hr, er, hp⟩ => (pss_cons h1 h2).run pins s σ H D I ⟨m, ρ, h, hr, er, ?_⟩⟩
  have hp' : postS G W m H D ((evS F st' ρ h).sq (evSs F rest')) := hp
  cases q : evS F st' ρ h with
  | nx ρ' h' => rw [q] at hp'; exact fun m' σ' H' e hr' er' => ⟨m', ρ', h', hr', er', postS_ext e hp'⟩
  | rt d h' => rw [q] at hp'; exact hp'
  | bk ρ h' => rw [q] at hp'; exact hp'
  | ct ρ h' => rw [q] at hp'; exact hp'
  | ex c ρ h' => rw [q] at hp'; exact hp'
  | stk => rw [q] at hp'; exact hp'
theorem rs_asg (he : PE X e (tE G W F e')) (hg : PG X tg (tG G F tg')) (hs : swapsWithSole [tg] e pos.line X.env = pure false) (hw : swappedStores [tg] e X.env = pure none)
    (h1 : (assignEach [tg] X.env).map (·.2) = [assign tg X.env]) : PS X (.Assign [tg] e pos) (tS G W F (.asg tg' e')) := by
  refine (ps_asg he hg hs hw h1).weaken fun D σ H ⟨m, ρ, h, hr, er, hp⟩ => ?_
  refine ⟨m, ρ, h, hr, er, post_imp (sb_post er hp) fun v H1 ⟨m1, d1, h1, e1, hr1, vd1, hp1⟩ => ?_⟩
  exact tG_imp (tgt_post (f := fun ρ h => .nx ρ h) hr1 (er.mono e1) vd1 hp1) fun σ' H' ⟨m', ρ', h', e2, hr2, er2, hp2⟩ => hp2 m' σ' H' .refl hr2 er2
theorem rs_set {i : Nat} {x : Str} (hN : X.N.Nodup) (hi : X.N[i]? = some x) (hx : Loc X.env.scope x) (he : PE X e (tE G W F e')) (hs : swapsWith e (some (.Name x pos')) pos.line X.env = pure false) (hf : X.fn x = true ∨ X.env.scope.names.lookup x = some .local) :
    PS X (.Assign [.Name x pos'] e pos) (tS G W F (.asg (.name i) e')) := by
  refine (ps_set hN hi hx he hs hf).weaken fun D σ H ⟨m, ρ, h, hr, er, hp⟩ => ?_
  exact ⟨m, ρ, h, hr, er, post_imp (sb_post er hp) fun v H1 ⟨m1, d1, h1, e1, hr1, vd1, hp1⟩ => hp1 m1 _ H1 .refl hr1 ((er.mono e1).set vd1)⟩
/-- name = [..], its reading that of the comprehension -/
theorem rs_setT {i : Nat} {te : TE} (h0 : PS X st (tAsg te (gName i))) (ht : ∀ σ H Q, tE G W F e' σ H Q → te σ H Q) : PS X st (tS G W F (.asg (.name i) e')) := by
  refine h0.weaken fun D σ H ⟨m, ρ, h, hr, er, hp⟩ => ht σ H _ ?_
  exact ⟨m, ρ, h, hr, er, post_imp (sb_post er hp) fun v H1 ⟨m1, d1, h1, e1, hr1, vd1, hp1⟩ => hp1 m1 _ H1 .refl hr1 ((er.mono e1).set vd1)⟩
theorem sfld_of {v w : V} {x d : Mp.D} {fl : Str} {h' : PH} (hr : HR G m h H) (vx : VD G m H v x) (vd : VD G m H w d) (q : sfldop F x fl d h = .ok () h') :
    ∃ a c dx fs, v = .ref a ∧ H a = some (.ins (G.ca c) dx fs) ∧ F.fld c fl = true ∧ fs.length < 1000 ∧ Ext G.K m H m (upd H a (.ins (G.ca c) dx (L2.putF fl w fs))) ∧ HR G m h' (upd H a (.ins (G.ca c) dx (L2.putF fl w fs))) := by
  unfold sfldop at q
  split at q
  · rename_i l
    split at q
    · rename_i c fs eo
      split at q
      · rename_i hc
        cases q
        cases vx with
        | @ref a l hl =>
          obtain ⟨dx, vs, q1, q2, q3⟩ := hr.of hl eo
          have ee : Ext G.K m H m (upd H a (.ins (G.ca c) dx (L2.putF fl w vs))) := ext_upd (wr_ins q1) (List.mem_of_getElem? hl)
          refine ⟨a, c, dx, vs, rfl, q1, hc.2, by rw [fvd_len q3]; exact hc.1, ee, hr.put hl eo (wr_ins q1) ⟨dx, _, upd_same, ?_, fvd_put (vd.mono ee) (q3.mono ee)⟩⟩
          rw [upd_ne (by rintro rfl; rw [q1] at q2; cases q2)]
          exact q2
      · cases q
    · cases q
  · cases q
theorem rs_sfd {fl : Str} (hf : ∀ c, F.fld c fl = true → Cls X.K (G.ca c) ∧ NoAttr X.K (G.ca c) fl) (ho : PE X o (tE G W F o')) (he : PE X e (tE G W F e')) (hs : swapsWith e (some (.Attribute o fl pos')) pos.line X.env = pure false) :
    PS X (.Assign [.Attribute o fl pos'] e pos) (tS G W F (.sfd o' fl e')) := by
  refine (ps_fld ho he hs).weaken fun D σ H ⟨m, ρ, h, hr, er, hp⟩ => ?_
  refine ⟨m, ρ, h, hr, er, post_imp (sb_post er hp) fun w H1 ⟨m1, d1, h1, e1, hr1, vd1, hp1⟩ => ?_⟩
  refine ⟨m1, ρ, h1, hr1, er.mono e1, post_imp (sb_post (er.mono e1) hp1) fun v H2 ⟨m2, d2, h2, e2, hr2, vd2, hp2⟩ => ?_⟩
  cases q : sfldop F d2 fl d1 h2 with
  | stk => rw [q] at hp2; exact hp2.elim
  | exc c h' =>
    exfalso
    unfold sfldop at q
    split at q
    · split at q
      · split at q <;> cases q
      · cases q
    · cases q
  | ok u h3 =>
    rw [q] at hp2
    obtain ⟨p, c, dx, fs, rfl, q1, q2, q3, q4, q5⟩ := sfld_of hr2 vd2 (vd1.mono e2) q
    obtain ⟨k1, k2⟩ := hf c q2
    exact ⟨p, G.ca c, dx, fs, rfl, q1, k1, k2, q3, hp2 m2 σ _ q4 q5 (er.mono (e1.trans (e2.trans q4)))⟩
theorem rs_par {i j : Nat} {x y : Str} {px py pt : Pos} {kt k2 : Nat} {pt2 : Pos} (hc : X.calm = true) (hN : X.N.Nodup) (hi : X.N[i]? = some x) (hj : X.N[j]? = some y) (hij : i ≠ j)
    (hx : X.env.scope.names.lookup x = some .local) (hy : X.env.scope.names.lookup y = some .local) (ha : PE X a (tE G W F a')) (hb : PE X b (tE G W F b')) (hs1 : starEach [a, b] X.env = (false, eval a X.env) :: starEach [b] X.env) (hs2 : starEach [b] X.env = (false, eval b X.env) :: starEach [] X.env)
    (hw : swappedStores [.Tuple [.Name x px, .Name y py] kt pt] (.Tuple [a, b] k2 pt2) X.env = pure (some [x, y]))
    (hs : swapsWithSole [.Tuple [.Name x px, .Name y py] kt pt] (.Tuple [a, b] k2 pt2) pos.line X.env = pure false) :
    PS X (.Assign [.Tuple [.Name x px, .Name y py] kt pt] (.Tuple [a, b] k2 pt2) pos) (tS G W F (.par i j a' b')) := by
  refine (ps_par hc hN hi hj hij hx hy (pa_cons ha (pa_cons hb pa_nil hs2) hs1) hw hs).weaken fun D σ H ⟨m, ρ, h, hr, er, hp⟩ => ?_
  refine ⟨m, ρ, h, hr, er, post_imp (sb_post er hp) fun v H1 ⟨m1, d1, h1, e1, hr1, vd1, hp1⟩ => ?_⟩
  refine ⟨m1, ρ, h1, hr1, er.mono e1, post_imp (sb_post (er.mono e1) hp1) fun w H2 ⟨m2, d2, h2, e2, hr2, vd2, hp2⟩ => ?_⟩
  exact ⟨v, w, rfl, hp2 m2 _ H2 .refl hr2 (((er.mono (e1.trans e2)).set (vd1.mono e2)).set vd2)⟩
theorem rs_ex (he : PE X e (tE G W F e')) (hs : swapsWith e none pos.line X.env = pure false) : PS X (.Expr e pos) (tS G W F (.ex e')) := by
  refine (ps_expr he hs).weaken fun D σ H ⟨m, ρ, h, hr, er, hp⟩ => ?_
  exact ⟨m, ρ, h, hr, er, post_imp (sb_post er hp) fun v H1 ⟨m1, d1, h1, e1, hr1, vd1, hp1⟩ => hp1 m1 σ H1 .refl hr1 (er.mono e1)⟩
theorem rs_ret (he : PE X e (tE G W F e')) : PS X (.Return (some e) pos) (tS G W F (.ret e')) := by
  refine (ps_ret he).weaken fun D σ H ⟨m, ρ, h, hr, er, hp⟩ => ?_
  exact ⟨m, ρ, h, hr, er, post_imp (sb_post er hp) fun v H1 ⟨m1, d1, h1, e1, hr1, vd1, hp1⟩ => hp1 m1 v H1 .refl hr1 vd1⟩
theorem rs_retN : PS X (.Return none pos) (tS G W F .retN) := (ps_retN (X := X)).weaken fun D σ H ⟨m, ρ, h, hr, er, hp⟩ => hp m .non H .refl hr .non
theorem rs_if (hc : PT X c (tT G W F c')) (ha : PSs X body (tSs G W F body')) (hb : PSs X els (tSs G W F els')) : PS X (.If c body els pos) (tS G W F (.ife c' body' els')) := by
  refine (ps_if hc ha hb).weaken fun D σ H ⟨m, ρ, h, hr, er, hp⟩ => ?_
  refine ⟨m, ρ, h, hr, er, postR_imp (sb_postR er hp) fun k H1 ⟨m1, h1, e1, hr1, hp1⟩ => ?_⟩
  cases k with
  | true => rw [if_pos rfl] at hp1 ⊢; exact ⟨m1, ρ, h1, hr1, er.mono e1, hp1⟩
  | false => rw [if_neg Bool.false_ne_true] at hp1 ⊢; exact ⟨m1, ρ, h1, hr1, er.mono e1, hp1⟩
theorem rs_whl (hpa : PassesOwn (model X.prog X.w) X.A X.env X.xe) (hc : PT X c (tT G W F c')) (hb : PSs X body (tSs G W F body')) : PS X (.While c body [] pos) (tS G W F (.whl c' body')) := by
  refine (ps_while hpa hc hb).weaken fun D σ H ⟨m, ρ, h, hr, er, hp⟩ => ?_
  refine ⟨fun n σ H => ∃ m ρ h, HR G m h H ∧ ER G m H σ ρ ∧ postS G W m H D (whlS (evB F c') (evSs F body') n ρ h), ⟨wlim, m, ρ, h, hr, er, hp⟩, ?_⟩
  rintro n σ1 H1 ⟨m1, ρ1, h1, hr1, er1, hp1⟩
  cases n with
  | zero => exact hp1.elim
  | succ n =>
    refine ⟨m1, ρ1, h1, hr1, er1, postR_imp (sb_postR er1 hp1) fun k H2 ⟨m2, h2, e2, hr2, hp2⟩ => ?_⟩
    cases k with
    | false =>
      rw [if_neg Bool.false_ne_true] at hp2 ⊢
      exact hp2 m2 σ1 H2 .refl hr2 (er1.mono e2)
    | true =>
      rw [if_pos rfl] at hp2 ⊢
      refine ⟨fun σ H => ∃ m ρ h, HR G m h H ∧ ER G m H σ ρ ∧ postS G W m H D (whlS (evB F c') (evSs F body') n ρ h), fun σ' H' q => ⟨n, Nat.lt_succ_self n, q⟩, m2, ρ1, h2, hr2, er1.mono e2, ?_⟩
      cases q : evSs F body' ρ1 h2 with
      | nx ρ3 h3 => rw [q] at hp2; exact fun m3 σ3 H3 e3 hr3 er3 => ⟨m3, ρ3, h3, hr3, er3, postS_ext e3 hp2⟩
      | ct ρ3 h3 => rw [q] at hp2; exact fun m3 σ3 H3 e3 hr3 er3 => ⟨m3, ρ3, h3, hr3, er3, postS_ext e3 hp2⟩
      | bk ρ3 h3 => rw [q] at hp2; exact hp2
      | rt d3 h3 => rw [q] at hp2; exact hp2
      | ex c3 ρ3 h3 => rw [q] at hp2; exact hp2
      | stk => rw [q] at hp2; exact hp2
theorem rs_for (hpa : PassesOwn (model X.prog X.w) X.A X.env X.xe) (hc : X.calm = true) (hi : PI X tg iter (tI G W F i')) (hg : PG X tg (tG G F tg')) (hb : PSs X body (tSs G W F body')) (hs : ∀ x, foldedSetIterable iter X.env x = pure x) :
    PS X (.For tg iter body [] pos) (tS G W F (.for_ tg' i' body')) := by
  refine (ps_for hpa hc hi hg hb hs).weaken fun D σ H ⟨m, ρ, h, hr, er, hp⟩ => ?_
  refine ⟨m, ρ, h, hr, er, ?_⟩
  have hp : postS G W m H D ((evI F i' ρ h).sb ρ fun w h => forS (fun x ρ h' => (evT F tg' x ρ h').nx.sb ρ fun ρ h' => evSs F body' ρ h') (fun h' => kept h h' w.keep) w.items ρ h) := hp
  cases q : evI F i' ρ h with
  | stk => rw [q] at hp; exact hp
  | exc c h' => rw [q] at hp; exact fun m1 H1 e hr => hp m1 σ H1 e hr (er.mono e)
  | ok w h1 =>
    rw [q] at hp
    generalize htn : (fun x ρ h' => (evT F tg' x ρ h').nx.sb ρ fun ρ h' => evSs F body' ρ h' : Mp.D → Env → PH → SRes) = turn at hp
    have hp1 : postS G W m H D (forS turn (fun h' => kept h1 h' w.keep) w.items ρ h1) := hp
    intro m1 H1 J e1 hr1 sv
    have er1 := er.mono e1
    have hp1 := postS_ext e1 hp1
    refine ⟨fun i n σ2 H2 => n = w.items.length - i ∧ i ≤ w.items.length ∧ ∃ m2 ρ2 h2, Ext G.K m1 H1 m2 H2 ∧ HR G m2 h2 H2 ∧ ER G m2 H2 σ2 ρ2 ∧ kept h1 h2 w.keep = true ∧ postS G W m2 H2 D (forS turn (fun h' => kept h1 h' w.keep) (w.items.drop i) ρ2 h2),
      ⟨_, rfl, Nat.zero_le _, m1, ρ, h1, .refl, hr1, er1, by unfold kept; simp, hp1⟩, ?_⟩
    rintro i n σ2 H2 ⟨rfl, hi, m2, ρ2, h2, e2, hr2, er2, k2, hp2⟩
    by_cases hlt : i < w.items.length
    · obtain ⟨hgo, hyl⟩ := (sv i m2 H2 h2 e2 hr2 k2).1 w.items[i] (by simp [hlt])
      refine .inr ⟨hgo, fun σ' H' => _, fun σ' H' hH' => ⟨w.items.length - (i + 1), by omega, hH'⟩, fun x H' y => ?_⟩
      obtain ⟨ee, hr', vdx⟩ := hyl x H' y
      rw [List.drop_eq_getElem_cons hlt] at hp2
      have hp3 : postS G W m2 H2 D (match turn w.items[i] ρ2 h2 with
        | .nx ρ' h' => if kept h1 h' w.keep = true then forS turn (fun h' => kept h1 h' w.keep) (w.items.drop (i + 1)) ρ' h' else .stk
        | .ct ρ' h' => if kept h1 h' w.keep = true then forS turn (fun h' => kept h1 h' w.keep) (w.items.drop (i + 1)) ρ' h' else .stk
        | .bk ρ' h' => .nx ρ' h'
        | r => r) := hp2
      rw [← htn] at hp3
      dsimp only at hp3
      rw [htn] at hp3
      refine ⟨m2, ρ2, h2, w.items[i], hr', er2.mono ee, vdx, ?_⟩
      cases q1 : evT F tg' w.items[i] ρ2 h2 with
      | stk => rw [q1] at hp3; exact hp3.elim
      | exc c h' => rw [q1] at hp3; exact hp3.elim
      | ok ρ' h3 =>
        rw [q1] at hp3
        intro m3 σ3 H3 e3 hr3 er3 os
        refine ⟨m3, ρ', h3, hr3, er3, ?_⟩
        have e23 := ee.trans e3
        have hp4 : postS G W m2 H2 D (match evSs F body' ρ' h3 with
          | .nx ρ' h' => if kept h1 h' w.keep = true then forS turn (fun h' => kept h1 h' w.keep) (w.items.drop (i + 1)) ρ' h' else .stk
          | .ct ρ' h' => if kept h1 h' w.keep = true then forS turn (fun h' => kept h1 h' w.keep) (w.items.drop (i + 1)) ρ' h' else .stk
          | .bk ρ' h' => .nx ρ' h'
          | r => r) := hp3
        have hp5 := postS_ext e23 hp4
        cases q2 : evSs F body' ρ' h3 with
        | nx ρ4 h4 =>
          rw [q2] at hp5
          dsimp only at hp5
          by_cases hk : kept h1 h4 w.keep = true
          · rw [if_pos hk] at hp5
            exact fun m4 σ4 H4 e4 hr4 er4 => ⟨rfl, hlt, m4, ρ4, h4, e2.trans (e23.trans e4), hr4, er4, hk, postS_ext e4 hp5⟩
          · rw [if_neg hk] at hp5
            exact hp5.elim
        | ct ρ4 h4 =>
          rw [q2] at hp5
          dsimp only at hp5
          by_cases hk : kept h1 h4 w.keep = true
          · rw [if_pos hk] at hp5
            exact fun m4 σ4 H4 e4 hr4 er4 => ⟨rfl, hlt, m4, ρ4, h4, e2.trans (e23.trans e4), hr4, er4, hk, postS_ext e4 hp5⟩
          · rw [if_neg hk] at hp5
            exact hp5.elim
        | bk ρ4 h4 => rw [q2] at hp5; exact hp5
        | rt d4 h4 => rw [q2] at hp5; exact hp5
        | ex c4 ρ4 h4 => rw [q2] at hp5; exact hp5
        | stk => rw [q2] at hp5; exact hp5
    · have e : i = w.items.length := by omega
      subst e
      rw [List.drop_length] at hp2
      exact .inl ⟨(sv _ m2 H2 h2 e2 hr2 k2).2 rfl, hp2 m2 σ2 H2 .refl hr2 er2⟩
theorem aug_ip {bo : Bop} {op : Operator} (hop : match bo with | .add => op = .Add | .sub => op = .Sub | _ => False) : PIp X op (fun x y H Q => ∃ m a b d, VD G m H x a ∧ VD G m H y b ∧ augop bo a b = some d ∧ ∀ v, VD G m H v d → Q v H) := by
  intro pins s σ H x y v u Q I rx ry hq
  obtain ⟨m, a, b, d, va, vb, e, q⟩ := hq
  unfold augop at e
  split at e
  · cases hop
    cases e
    cases va; cases vb
    exact ip_add pins s σ H _ _ v u Q I rx ry ⟨_, _, rfl, rfl, q _ (.int _)⟩
  · cases hop
    cases e
    cases va; cases vb
    exact ip_sub pins s σ H _ _ v u Q I rx ry ⟨_, _, rfl, rfl, q _ (.int _)⟩
  · cases hop
    split at e
    · rename_i hl
      cases e
      cases va; cases vb
      exact augR (r := fun x y H Q => ∃ i j, x = .str i ∧ y = .str j ∧ i.length + j.length ≤ sizeLine ∧ Q (.str (i ++ j)) H) iop_add_str I rx ry ⟨_, _, rfl, rfl, by rw [← mx_eq]; exact hl, q _ (.str _)⟩
    · cases e
  · cases e
theorem rs_aug {i : Nat} {x : Str} {bo : Bop} {op : Operator} (hop : match bo with | .add => op = .Add | .sub => op = .Sub | _ => False) (hN : X.N.Nodup) (hi : X.N[i]? = some x) (hx : Loc X.env.scope x) (he : PE X e (tE G W F e')) (hf : X.fn x = true ∨ X.env.scope.names.lookup x = some .local) :
    PS X (.AugAssign (.Name x pos') op e pos) (tS G W F (.aug i bo e')) := by
  refine (ps_aug hN hi hx he (aug_ip (G := G) hop) hf).weaken fun D σ H ⟨m, ρ, h, hr, er, hp⟩ => ?_
  have hp' : postS G W m H D (match ρ[i]? with
    | some (some x) => (evE F e' ρ h).sb ρ fun y h => match augop bo x y with
      | some z => .nx (ρ.set i (some z)) h
      | none => .stk
    | _ => .stk) := hp
  split at hp'
  · rename_i d hd
    obtain ⟨v, h1, h2⟩ := er.2 i d hd
    refine ⟨v, h1, m, ρ, h, hr, er, post_imp (sb_post er hp') fun w H1 ⟨m1, d1, h1, e1, hr1, vd1, hp1⟩ => ?_⟩
    cases q : augop bo d d1 with
    | none => rw [q] at hp1; exact hp1.elim
    | some z =>
      rw [q] at hp1
      exact ⟨m1, d, d1, z, h2.mono e1, vd1, q, fun u vu => hp1 m1 _ H1 .refl hr1 ((er.mono e1).set vu)⟩
  · exact hp'.elim
/-- a try whose body raises nothing -/
theorem rs_thru {h₀ : ExceptHandler} {hs : List ExceptHandler} (hb : PSs X.nox body (tSs G W0 F body')) : PS X (.Try body (h₀ :: hs) [] [] pos) (tS G W F (.thru body')) := by
  refine (ps_try_thru0 hb).weaken fun D σ H ⟨m, ρ, h, hr, er, hp⟩ => ⟨m, ρ, h, hr, er, ?_⟩
  have hp' : postS G W m H D (evSs F body' ρ h).quiet := hp
  cases q : evSs F body' ρ h with
  | ex c ρ' h' => rw [q] at hp'; exact hp'.elim
  | stk => rw [q] at hp'; exact hp'
  | nx ρ' h' => rw [q] at hp'; exact hp'
  | rt d h' => rw [q] at hp'; exact hp'
  | bk ρ' h' => rw [q] at hp'; exact hp'
  | ct ρ' h' => rw [q] at hp'; exact hp'
end
end Mp

set_option Elab.async false
set_option linter.all false
set_option maxRecDepth 100000
set_option maxHeartbeats 1000000
/-! C10: the rules in the form in which a printed term takes them. -/
namespace Mp
open PySem PySem.Spec PyProof.Rows L2
/-- the text's names: its defs with their numbers and defaults; built-in names that the text leaves alone -/
structure TD where
  defs : List (Str × (Nat × List D))
  free : List Str
  /-- constants -/
  con : List (Str × D) := []
  /-- classes, by their names' places -/
  cls : List (Str × Nat) := []
  cl : List CD := []
  /-- written dicts with text keys -/
  dic : List (Str × List (Str × D)) := []
def conOk (G : Gm) (mg : Str → Option Value) (x : Str) (d : D) : Prop := ∃ u v, mg x = some u ∧ RelV v u ∧ ∀ m H, VD G m H v d
structure XOk (T : TD) (G : Gm) (W : WX) (F : Fns) (N : List Str) (S : Scope) (X : Cx) : Prop where
  hN : X.N = N
  hs : X.env.scope = S
  hK : X.K = G.K
  hP : X.prog = G.P
  hw : X.w = G.w
  hu : X.A.units + 65 < cLine
  calm : X.calm = true
  nd : X.N.Nodup
  tk : L2N.Takes X W
  kd : X.env.scope.kind = .function
  fnc : ∀ x k dfl, T.defs.lookup x = some (k, dfl) → X.mg x = some (.ref (G.fa k)) ∧ FnC G F X k dfl
  free : ∀ x, T.free.contains x = true → X.mg x = none
  fnk : ∀ k, F.has k = true → FnC G F X k []
  con : ∀ x d, T.con.lookup x = some d → conOk G X.mg x d
  cls : ∀ x c, T.cls.lookup x = some c → X.mg x = some (.ref (G.ca c))
  ini : ∀ c k, F.ini c = some k → Mk X.K (G.ca c) (G.fa k) ∧ FnC G F X k []
  mth : ∀ mn c k, F.mth c mn = some k → Cls X.K (G.ca c) ∧ Meth X.K (G.ca c) mn (G.fa k) ∧ FnC G F X k []
  fld : ∀ f c, F.fld c f = true → Cls X.K (G.ca c) ∧ NoAttr X.K (G.ca c) f
  dic : ∀ x kvs, T.dic.lookup x = some kvs → ∃ a, X.mg x = some (.ref a) ∧ DicOk X G a kvs
def nmC (N : List Str) (sc : Scope) (i : Nat) (x : Str) : Bool :=
  decide (N[i]? = some x) && (match sc.names.lookup x with | some .local => true | some .cell => true | some .free => true | _ => false) && !(x == ("__debug__" : Str)) && !(x == ("__classdict__" : Str))
def stC (N : List Str) (sc : Scope) (i : Nat) (x : Str) : Bool := decide (N[i]? = some x) && (match sc.names.lookup x with | some .local => true | _ => false)
def glC (sc : Scope) (x : Str) : Bool := (match sc.names.lookup x with | some .globalImplicit => true | _ => false) && !(x == ("__debug__" : Str)) && decide (x ≠ "__name__")
theorem nmC_ok {N : List Str} {sc : Scope} {i : Nat} {x : Str} (h : nmC N sc i x = true) : N[i]? = some x ∧ Vis sc x ∧ (x == ("__debug__" : Str)) = false ∧ (x == ("__classdict__" : Str)) = false := by
  unfold nmC at h
  simp only [Bool.and_eq_true, decide_eq_true_eq, Bool.not_eq_true'] at h
  refine ⟨h.1.1.1, ?_, h.1.2, h.2⟩
  have q := h.1.1.2
  unfold Vis
  split at q
  · rename_i e; exact .inl e
  · rename_i e; exact .inr (.inl e)
  · rename_i e; exact .inr (.inr e)
  · cases q
theorem stC_ok {N : List Str} {sc : Scope} {i : Nat} {x : Str} (h : stC N sc i x = true) : N[i]? = some x ∧ sc.names.lookup x = some .local := by
  unfold stC at h
  simp only [Bool.and_eq_true, decide_eq_true_eq] at h
  refine ⟨h.1, ?_⟩
  have q := h.2
  split at q
  · rename_i e; exact e
  · cases q
theorem glC_ok {sc : Scope} {x : Str} (h : glC sc x = true) : sc.names.lookup x = some .globalImplicit ∧ (x == ("__debug__" : Str)) = false ∧ x ≠ "__name__" := by
  unfold glC at h
  simp only [Bool.and_eq_true, decide_eq_true_eq, Bool.not_eq_true'] at h
  refine ⟨?_, h.1.2, h.2⟩
  have q := h.1.1
  split at q
  · rename_i e; exact e
  · cases q
section
variable {N : List Str} {S : Scope} {T : TD} {G : Gm} {W : WX} {F : Fns} {X : Cx} {e a b c o f : Expr} {e' a' b' c' o' f' : Ex} {es : List Expr} {es' : Exs} {pos pos' p p2 apos : Pos}
theorem takesN0 {X : Cx} : L2N.Takes X W0 := fun _ _ x => by
  obtain ⟨_, _, _, _, _, _, _, _, _, _, _, _, _, _, _, _, z⟩ := x
  exact z.elim
theorem XOk.blk {s : Shared} {H : Hp} {sc : Scope} {C : Addr} {cl : List (Str × Addr)} {fp : List Addr} (ok : XOk T G W F N S X) (hk : sc.kind = .function) : XOk T G W0 F N (relS sc S) (X.blk s H sc (compEnvC sc cl C X.env) fp) :=
  ⟨ok.hN, (congrArg (relS sc) ok.hs : relS sc X.env.scope = relS sc S), ok.hK, ok.hP, ok.hw, ok.hu, ok.calm, ok.nd, takesN0, hk, fun x k dfl h => ⟨(ok.fnc x k dfl h).1, ⟨(ok.fnc x k dfl h).2.ex⟩⟩, ok.free, fun k h => ⟨(ok.fnk k h).ex⟩, ok.con, ok.cls, fun c k h => ⟨(ok.ini c k h).1, ⟨(ok.ini c k h).2.ex⟩⟩, fun c mn k h => ⟨(ok.mth c mn k h).1, (ok.mth c mn k h).2.1, ⟨(ok.mth c mn k h).2.2.ex⟩⟩, ok.fld, fun x kvs h => let ⟨a, h1, h2⟩ := ok.dic x kvs h; ⟨a, h1, ⟨h2.ex, h2.get⟩⟩⟩
theorem XOk.nox (ok : XOk T G W F N S X) : XOk T G W0 F N S X.nox :=
  ⟨ok.hN, ok.hs, ok.hK, ok.hP, ok.hw, ok.hu, ok.calm, ok.nd, takesN0, ok.kd, fun x k dfl h => ⟨(ok.fnc x k dfl h).1, ⟨(ok.fnc x k dfl h).2.ex⟩⟩, ok.free, fun k h => ⟨(ok.fnk k h).ex⟩, ok.con, ok.cls, fun c k h => ⟨(ok.ini c k h).1, ⟨(ok.ini c k h).2.ex⟩⟩, fun c mn k h => ⟨(ok.mth c mn k h).1, (ok.mth c mn k h).2.1, ⟨(ok.mth c mn k h).2.2.ex⟩⟩, ok.fld, fun x kvs h => let ⟨a, h1, h2⟩ := ok.dic x kvs h; ⟨a, h1, ⟨h2.ex, h2.get⟩⟩⟩
theorem k_var (i : Nat) {x : Str} (ok : XOk T G W F N S X) (h : nmC N S i x = true := by kernel_rfl) : PE X (.Name x pos) (tE G W F (.var i)) := by
  obtain ⟨h1, h2, h3, h4⟩ := nmC_ok h
  exact r_var (by rw [ok.hN]; exact h1) (by rw [ok.hs]; exact h2) h3 h4
theorem gl_of {x : Str} (ok : XOk T G W F N S X) (hg : glC S x = true) : Gl X x ∧ (x == ("__debug__" : Str)) = false ∧ x ≠ "__name__" := by
  obtain ⟨g1, g2, g3⟩ := glC_ok hg
  exact ⟨(by show X.env.scope.names.lookup x = _; rw [ok.hs]; exact g1), g2, g3⟩
theorem k_int {i : Int} {j : Nat} : PE X (.Constant (.int i) j pos) (tE G W F (.cst (.int i))) := r_cst pe_int fun _ _ => .int i
theorem k_str {x : Str} {j : Nat} : PE X (.Constant (.str x) j pos) (tE G W F (.cst (.str x))) := r_cst pe_str fun _ _ => .str x
theorem k_bl {b : Bool} {j : Nat} : PE X (.Constant (.bool b) j pos) (tE G W F (.cst (.bl b))) := r_cst pe_bl fun _ _ => .bl b
theorem k_non {j : Nat} : PE X (.Constant .none j pos) (tE G W F (.cst .non)) := r_cst pe_non fun _ _ => .non
theorem k_add (ok : XOk T G W F N S X) (ha : PE X a (tE G W F a')) (hb : PE X b (tE G W F b')) : PE X (.BinOp a .Add b pos) (tE G W F (.bin .add a' b')) := r_bin (o := .add) ok.hK ha hb
theorem k_sub (ok : XOk T G W F N S X) (ha : PE X a (tE G W F a')) (hb : PE X b (tE G W F b')) : PE X (.BinOp a .Sub b pos) (tE G W F (.bin .sub a' b')) := r_bin (o := .sub) ok.hK ha hb
theorem k_mul (ok : XOk T G W F N S X) (ha : PE X a (tE G W F a')) (hb : PE X b (tE G W F b')) : PE X (.BinOp a .Mult b pos) (tE G W F (.bin .mul a' b')) := r_bin (o := .mul) ok.hK ha hb
theorem k_fdiv (ok : XOk T G W F N S X) (ha : PE X a (tE G W F a')) (hb : PE X b (tE G W F b')) : PE X (.BinOp a .FloorDiv b pos) (tE G W F (.bin .fdiv a' b')) := r_bin (o := .fdiv) ok.hK ha hb
theorem k_mod (ok : XOk T G W F N S X) (ha : PE X a (tE G W F a')) (hb : PE X b (tE G W F b')) : PE X (.BinOp a .Mod b pos) (tE G W F (.bin .mod a' b')) := r_bin (o := .mod) ok.hK ha hb
theorem k_pow (ok : XOk T G W F N S X) (ha : PE X a (tE G W F a')) (hb : PE X b (tE G W F b')) : PE X (.BinOp a .Pow b pos) (tE G W F (.bin .pow a' b')) := r_bin (o := .pow) ok.hK ha hb
theorem k_ix (ok : XOk T G W F N S X) (ha : PE X a (tE G W F a')) (hb : PE X b (tE G W F b')) (hs : PlainIx b := by intro _ _; rfl) : PE X (.Subscript a b pos) (tE G W F (.ix a' b')) := r_ix ok.hK ok.hP ok.hw ok.hu ha hb hs
theorem k_sl {lo hi : Option Expr} {lo' hi' : Opt} (ok : XOk T G W F N S X) (ha : PE X a (tE G W F a')) (hl : PO X lo (tO G W F lo')) (hh : PO X hi (tO G W F hi')) : PE X (.Subscript a (.Slice lo hi none p2) pos) (tE G W F (.sl a' lo' hi')) := r_sl ok.hK ha hl hh
theorem k_cons (ha : PE X a (tE G W F a')) (hr : PA X es (tEs G W F es')) (hs : starEach (a :: es) X.env = (false, eval a X.env) :: starEach es X.env := by rfl) : PA X (a :: es) (tEs G W F (.cons a' es')) := ra_cons ha hr hs
/-! comparisons -/
theorem k_eq (ok : XOk T G W F N S X) (ha : PE X a (tE G W F a')) (hb : PE X b (tE G W F b')) (hm : behindInMarks .Eq b = false := by rfl) : PE X (.Compare a [.Eq] [b] pos) (tE G W F (.cmp .eq a' b')) := r_cmp (op_eqq ok.hK ok.hu) ha hb hm
theorem k_ne (ok : XOk T G W F N S X) (ha : PE X a (tE G W F a')) (hb : PE X b (tE G W F b')) (hm : behindInMarks .NotEq b = false := by rfl) : PE X (.Compare a [.NotEq] [b] pos) (tE G W F (.cmp .ne a' b')) := r_cmp (op_neq ok.hK ok.hu) ha hb hm
theorem k_lt (ok : XOk T G W F N S X) (ha : PE X a (tE G W F a')) (hb : PE X b (tE G W F b')) (hm : behindInMarks .Lt b = false := by rfl) : PE X (.Compare a [.Lt] [b] pos) (tE G W F (.cmp .lt a' b')) := r_cmp op_ltq ha hb hm
theorem k_le (ok : XOk T G W F N S X) (ha : PE X a (tE G W F a')) (hb : PE X b (tE G W F b')) (hm : behindInMarks .LtE b = false := by rfl) : PE X (.Compare a [.LtE] [b] pos) (tE G W F (.cmp .le a' b')) := r_cmp op_leq ha hb hm
theorem k_gt (ok : XOk T G W F N S X) (ha : PE X a (tE G W F a')) (hb : PE X b (tE G W F b')) (hm : behindInMarks .Gt b = false := by rfl) : PE X (.Compare a [.Gt] [b] pos) (tE G W F (.cmp .gt a' b')) := r_cmp op_gtq ha hb hm
theorem k_ge (ok : XOk T G W F N S X) (ha : PE X a (tE G W F a')) (hb : PE X b (tE G W F b')) (hm : behindInMarks .GtE b = false := by rfl) : PE X (.Compare a [.GtE] [b] pos) (tE G W F (.cmp .ge a' b')) := r_cmp op_geq ha hb hm
theorem k_in (ok : XOk T G W F N S X) (ha : PE X a (tE G W F a')) (hb : PE X b (tE G W F b')) (hm : behindInMarks .In b = false := by rfl) : PE X (.Compare a [.In] [b] pos) (tE G W F (.cmp .ein a' b')) := r_cmp (op_inq ok.hK ok.hP ok.hw ok.hu) ha hb hm
theorem k_nin (ok : XOk T G W F N S X) (ha : PE X a (tE G W F a')) (hb : PE X b (tE G W F b')) (hm : behindInMarks .NotIn b = false := by rfl) : PE X (.Compare a [.NotIn] [b] pos) (tE G W F (.cmp .nin a' b')) := r_cmp (op_ninq ok.hK ok.hP ok.hw ok.hu) ha hb hm
theorem k_isN {j : Nat} (ha : PE X a (tE G W F a')) : PE X (.Compare a [.Is] [.Constant .none j p2] pos) (tE G W F (.cmp .isN a' (.cst .non))) := r_isc op_isNq ha pe_non (fun _ _ => .non) rfl
theorem k_notN {j : Nat} (ha : PE X a (tE G W F a')) : PE X (.Compare a [.IsNot] [.Constant .none j p2] pos) (tE G W F (.cmp .notN a' (.cst .non))) := r_isc op_notNq ha pe_non (fun _ _ => .non) rfl
theorem k_isB {b : Bool} {j : Nat} (ha : PE X a (tE G W F a')) : PE X (.Compare a [.Is] [.Constant (.bool b) j p2] pos) (tE G W F (.cmp (.isB b) a' (.cst (.bl b)))) := r_isc (op_isBq b) ha pe_bl (fun _ _ => .bl b) rfl
theorem k_notB {b : Bool} {j : Nat} (ha : PE X a (tE G W F a')) : PE X (.Compare a [.IsNot] [.Constant (.bool b) j p2] pos) (tE G W F (.cmp (.notB b) a' (.cst (.bl b)))) := r_isc (op_notBq b) ha pe_bl (fun _ _ => .bl b) rfl
/-! tests -/
def swpC (x y : Str) (px py : Pos) (a b : Expr) : Bool :=
  (py.line == px.line) && (x != y) && !([a, b].any fun | .Starred .. => true | _ => false) && !([a, b].all (foldedForSure 8)) && !([a, b].all (constantsAlone 8))
theorem swapped_ok {x y : Str} {px py pt pt2 : Pos} {kt k2 : Nat} {env : PySem.Env} (hk : env.scope.kind = .function) (hx : env.scope.names.lookup x = some .local) (hy : env.scope.names.lookup y = some .local) (hc : swpC x y px py a b = true) :
    swappedStores [.Tuple [.Name x px, .Name y py] kt pt] (.Tuple [a, b] k2 pt2) env = pure (some [x, y]) := by
  unfold swpC at hc
  simp only [Bool.and_eq_true, Bool.not_eq_true', bne_iff_ne, beq_iff_eq] at hc
  obtain ⟨⟨⟨⟨h1, h2⟩, h3⟩, h4⟩, h5⟩ := hc
  have hb : env.blockKind = .function := by unfold PySem.Env.blockKind; rw [hk]; rfl
  have k1 : env.kindOf x = some .local := hx
  have k2 : env.kindOf y = some .local := hy
  have hd : [x, y].eraseDups = [x, y] := by
    simp [List.eraseDups_cons, Ne.symm h2]
  unfold swappedStores
  simp [hb, h3, h4, h5, k1, k2, h1, hd, Expr.pos]
  intro q
  simp only [List.any_cons, List.any_nil, Bool.or_false, Bool.or_eq_false_iff] at h3
  rcases q with q | q
  · exact Bool.noConfusion (h3.1.symm.trans q)
  · exact Bool.noConfusion (h3.2.symm.trans q)
theorem h_val (ok : XOk T G W F N S X) (ha : PE X a (tE G W F a')) (he : ∀ whole, isTrue a X.env whole = (do let v ← whole; standAt a.pos; holding [v] (truthy v)) := by intro _; rfl) : PT X a (tT G W F a') := rt_val ok.hK ha he
theorem h_eq (ok : XOk T G W F N S X) (ha : PE X a (tE G W F a')) (hb : PE X b (tE G W F b')) (hm : behindInMarks .Eq b = false := by rfl) : PT X (.Compare a [.Eq] [b] pos) (tT G W F (.cmp .eq a' b')) := rt_cmp (op_eqq ok.hK ok.hu) ha hb hm
theorem h_ne (ok : XOk T G W F N S X) (ha : PE X a (tE G W F a')) (hb : PE X b (tE G W F b')) (hm : behindInMarks .NotEq b = false := by rfl) : PT X (.Compare a [.NotEq] [b] pos) (tT G W F (.cmp .ne a' b')) := rt_cmp (op_neq ok.hK ok.hu) ha hb hm
theorem h_lt (ok : XOk T G W F N S X) (ha : PE X a (tE G W F a')) (hb : PE X b (tE G W F b')) (hm : behindInMarks .Lt b = false := by rfl) : PT X (.Compare a [.Lt] [b] pos) (tT G W F (.cmp .lt a' b')) := rt_cmp op_ltq ha hb hm
theorem h_le (ok : XOk T G W F N S X) (ha : PE X a (tE G W F a')) (hb : PE X b (tE G W F b')) (hm : behindInMarks .LtE b = false := by rfl) : PT X (.Compare a [.LtE] [b] pos) (tT G W F (.cmp .le a' b')) := rt_cmp op_leq ha hb hm
theorem h_gt (ok : XOk T G W F N S X) (ha : PE X a (tE G W F a')) (hb : PE X b (tE G W F b')) (hm : behindInMarks .Gt b = false := by rfl) : PT X (.Compare a [.Gt] [b] pos) (tT G W F (.cmp .gt a' b')) := rt_cmp op_gtq ha hb hm
theorem h_ge (ok : XOk T G W F N S X) (ha : PE X a (tE G W F a')) (hb : PE X b (tE G W F b')) (hm : behindInMarks .GtE b = false := by rfl) : PT X (.Compare a [.GtE] [b] pos) (tT G W F (.cmp .ge a' b')) := rt_cmp op_geq ha hb hm
theorem h_in (ok : XOk T G W F N S X) (ha : PE X a (tE G W F a')) (hb : PE X b (tE G W F b')) (hm : behindInMarks .In b = false := by rfl) : PT X (.Compare a [.In] [b] pos) (tT G W F (.cmp .ein a' b')) := rt_cmp (op_inq ok.hK ok.hP ok.hw ok.hu) ha hb hm
theorem h_nin (ok : XOk T G W F N S X) (ha : PE X a (tE G W F a')) (hb : PE X b (tE G W F b')) (hm : behindInMarks .NotIn b = false := by rfl) : PT X (.Compare a [.NotIn] [b] pos) (tT G W F (.cmp .nin a' b')) := rt_cmp (op_ninq ok.hK ok.hP ok.hw ok.hu) ha hb hm
theorem h_isN {j : Nat} (ha : PE X a (tE G W F a')) : PT X (.Compare a [.Is] [.Constant .none j p2] pos) (tT G W F (.cmp .isN a' (.cst .non))) := rt_isc op_isNq ha pe_non (fun _ _ => .non) rfl
theorem h_notN {j : Nat} (ha : PE X a (tE G W F a')) : PT X (.Compare a [.IsNot] [.Constant .none j p2] pos) (tT G W F (.cmp .notN a' (.cst .non))) := rt_isc op_notNq ha pe_non (fun _ _ => .non) rfl
theorem h_isB {b : Bool} {j : Nat} (ha : PE X a (tE G W F a')) : PT X (.Compare a [.Is] [.Constant (.bool b) j p2] pos) (tT G W F (.cmp (.isB b) a' (.cst (.bl b)))) := rt_isc (op_isBq b) ha pe_bl (fun _ _ => .bl b) rfl
theorem h_notB {b : Bool} {j : Nat} (ha : PE X a (tE G W F a')) : PT X (.Compare a [.IsNot] [.Constant (.bool b) j p2] pos) (tT G W F (.cmp (.notB b) a' (.cst (.bl b)))) := rt_isc (op_notBq b) ha pe_bl (fun _ _ => .bl b) rfl
/-! and, or -/
theorem k_and {rest : List Expr} (ok : XOk T G W F N S X) (ha : PE X a (tE G W F a')) (hb : PE X (.BoolOp .And (b :: rest) pos) (tE G W F b')) : PE X (.BoolOp .And (a :: b :: rest) pos) (tE G W F (.and a' b')) := r_and ok.hK ha hb
theorem k_or {rest : List Expr} (ok : XOk T G W F N S X) (ha : PE X a (tE G W F a')) (hb : PE X (.BoolOp .Or (b :: rest) pos) (tE G W F b')) : PE X (.BoolOp .Or (a :: b :: rest) pos) (tE G W F (.or a' b')) := r_or ok.hK ha hb
theorem k_and1 (ha : PE X a (tE G W F a')) : PE X (.BoolOp .And [a] pos) (tE G W F a') := pe_one ha
theorem k_or1 (ha : PE X a (tE G W F a')) : PE X (.BoolOp .Or [a] pos) (tE G W F a') := pe_one ha
theorem k_not (ok : XOk T G W F N S X) (ha : PE X a (tE G W F a')) : PE X (.UnaryOp .Not a pos) (tE G W F (.not a')) := r_not ok.hK ha
theorem h_and1 (ha : PT X a (tT G W F a')) : PW X (.BoolOp .And [a] pos) (tT G W F a') := pw_and1 ha
theorem h_or1 (ha : PT X a (tT G W F a')) : PW X (.BoolOp .Or [a] pos) (tT G W F a') := pw_or1 ha
/-! calls -/
theorem k_call {x : Str} (k : Nat) (dfl : List D) (j : Nat) (ok : XOk T G W F N S X) (ha : PA X (e :: es) (tEs G W F es')) (hd : T.defs.lookup x = some (k, dfl) := by kernel_rfl) (hg : glC S x = true := by kernel_rfl) (he : starEach (e :: es) X.env = (false, eval e X.env) :: starEach es X.env := by rfl) (hpl : (backTo pos (starEach es X.env)).any (·.1) = false := by rfl) :
    PE X (.Call (.Name x p) (e :: es) [] pos) (tE G W F (.call k es' (dfl.drop j))) := by
  obtain ⟨h1, h2⟩ := ok.fnc x k dfl hd
  obtain ⟨g1, g2, g3⟩ := gl_of ok hg
  exact r_call j h2 ok.tk g1 h1 ha g2 he hpl
theorem k_call0 {x : Str} (k : Nat) (dfl : List D) (j : Nat) (ok : XOk T G W F N S X) (hd : T.defs.lookup x = some (k, dfl) := by kernel_rfl) (hg : glC S x = true := by kernel_rfl) :
    PE X (.Call (.Name x p) [] [] pos) (tE G W F (.call k .nil (dfl.drop j))) := by
  obtain ⟨h1, h2⟩ := ok.fnc x k dfl hd
  obtain ⟨g1, g2, g3⟩ := gl_of ok hg
  exact r_call0 j h2 ok.tk g1 h1 g2
theorem k_blt {x : Str} {id : String} {f : Bif} (ho : CallR X (.builtin id) (rL G (bfn f))) (ok : XOk T G W F N S X) (hv : bootBuiltins x = some (.builtin id)) (ha : PA X (e :: es) (tEs G W F es'))
    (hf : T.free.contains x = true := by kernel_rfl) (hg : glC S x = true := by kernel_rfl) (he : starEach (e :: es) X.env = (false, eval e X.env) :: starEach es X.env := by rfl) (hpl : (backTo pos (starEach es X.env)).any (·.1) = false := by rfl) : PE X (.Call (.Name x p) (e :: es) [] pos) (tE G W F (.bfn f es')) := by
  obtain ⟨g1, g2, g3⟩ := gl_of ok hg
  exact r_callB ho g1 (ok.free x hf) hv ha g3 g2 he hpl
theorem k_bty {x : Str} {id : String} {f : Bif} (ho : CallR X (.type id) (rL G (bfn f))) (ok : XOk T G W F N S X) (hv : bootBuiltins x = some (.type id)) (ha : PA X (e :: es) (tEs G W F es'))
    (hf : T.free.contains x = true := by kernel_rfl) (hg : glC S x = true := by kernel_rfl) (he : starEach (e :: es) X.env = (false, eval e X.env) :: starEach es X.env := by rfl) (hpl : (backTo pos (starEach es X.env)).any (·.1) = false := by rfl) : PE X (.Call (.Name x p) (e :: es) [] pos) (tE G W F (.bfn f es')) := by
  obtain ⟨g1, g2, g3⟩ := gl_of ok hg
  exact r_callTy ho g1 (ok.free x hf) hv ha g3 g2 he hpl
end
end Mp

set_option Elab.async false
set_option linter.all false
set_option maxRecDepth 100000
set_option maxHeartbeats 1000000
/-! C11: the rest of the printed terms' rules; a def by its body. -/
namespace Mp
open PySem PySem.Spec PyProof.Rows L2
section
variable {N : List Str} {S : Scope} {T : TD} {G : Gm} {W : WX} {F : Fns} {X : Cx} {e a b c o f : Expr} {e' a' b' c' o' f' : Ex} {es : List Expr} {es' : Exs} {pos pos' p p2 apos kpos spos lpos py tpos : Pos} {tg iter : Expr} {tg' : Tg} {i' : Mp.Iw} {ifs : List Expr} {cs' : Exs} {sc : Scope} {elts : List Expr} {kk : Nat}
/-! max of a list with a default -/
theorem call_maxd (hc : X.calm = true) (hu : X.A.units + 65 < cLine) {pins : List (Addr × Obj)} {s : Shared} {σ : L2.St} {H : Hp} {al : Addr} {ns : List Int} {d : Int} {u v : Value} {Q : VK} (I : Inv X pins σ H s) (r : RelV (.ref al) u) (rd : RelV (.int d) v) (hs : SqL X.K H al (ns.map V.int)) (hq : Q (.int (mxd d ns)) H) :
    wpAny (model X.prog X.w) X.A (call (.builtin "max") [u] [(Str.ofString "default", v)]) (EP X pins σ Q) X.xe s := by
  cases r
  obtain ⟨t, rfl⟩ := rd
  obtain ⟨its, rv, hl, _⟩ := I.list hs
  have hi := rv.ints
  refine PySem.W.max_list_default (xs := ns.map .int) (as := []) (I.ok.hd hc) hl.isList ?_ ⟨?_, ?_⟩ (by rw [PySem.W.depth_ints]; omega) (fun e h' tk hk => ?_) fun y ys i v h' tk bs e hv rd hk => ?_
  · exact hi.reads _
  · intro x hx y hy
    obtain ⟨i, _, rfl⟩ := List.mem_map.mp hx
    obtain ⟨j, _, rfl⟩ := List.mem_map.mp hy
    simp [PySem.W.alike]
  · intro x hx
    obtain ⟨i, _, rfl⟩ := List.mem_map.mp hx
    exact fun z => nomatch z
  · cases ns with
    | nil => exact ⟨.int _, H, I.kept hk, ⟨_, rfl⟩, hq⟩
    | cons n r => cases e
  · cases ns with
    | nil => cases e
    | cons n r =>
      cases e
      rw [PySem.W.maxD_ints] at rd
      cases rd
      exact ⟨.int _, H, I.kept hk, ⟨_, rfl⟩, hq⟩
theorem k_maxd {x : Str} (ok : XOk T G W F N S X) (hx : x = "max") (ha : PE X a (tE G W F a')) (hb : PE X b (tE G W F b')) (hf : T.free.contains x = true := by kernel_rfl) (hg : glC S x = true := by kernel_rfl) (hs : starEach [a] X.env = [(false, eval a X.env)] := by rfl) :
    PE X (.Call (.Name x p) [a] [⟨some "default", b, kpos⟩] pos) (tE G W F (.bfn .maxd (.cons a' (.cons b' .nil)))) := by
  subst hx
  obtain ⟨g1, g2, g3⟩ := gl_of ok hg
  refine ⟨fun pins s σ H Q I ⟨m, ρ, h, hr, er, hp⟩ => ?_⟩
  refine wpAny_Call_Name_kw (ld_blt I g1 (ok.free _ hf) (u := .builtin "max") rfl ?_ g3 g2)
  have hp' : post G W σ m H Q ((evE F a' ρ h).bind fun x h => (evE F b' ρ h).bind fun y h => bfn .maxd [x, y] h) := by
    have e0 : evE F (.bfn .maxd (.cons a' (.cons b' .nil))) ρ h = (evE F a' ρ h).bind fun x h => (evE F b' ρ h).bind fun y h => bfn .maxd [x, y] h := by
      show ((evE F a' ρ h).bind fun x h => ((evE F b' ρ h).bind fun y h => (Res.ok [] h).bind fun ys h => .ok (y :: ys) h).bind fun xs h => .ok (x :: xs) h).bind _ = _
      cases evE F a' ρ h with
      | ok d h1 =>
        dsimp only [Res.bind]
        cases evE F b' ρ h1 <;> rfl
      | exc c h1 => rfl
      | stk => rfl
    rw [e0] at hp
    exact hp
  refine PyProof.Rows.callWith_kw (thn ((pa_cons ha pa_nil (by rw [hs]; rfl)).run pos pins s σ H (fun vs H1 => ∃ m1 d1 h1 v, vs = [v] ∧ Ext G.K m H m1 H1 ∧ HR G m1 h1 H1 ∧ VD G m1 H1 v d1 ∧ post G W σ m1 H1 Q ((evE F b' ρ h1).bind fun y h => bfn .maxd [d1, y] h)) I
    ⟨m, ρ, h, hr, er, post_imp (post_bind hp') fun v H1 ⟨m1, d1, h1, e1, hr1, vd1, hp1⟩ => ⟨m1, d1, h1, v, rfl, e1, hr1, vd1, hp1⟩⟩) fun us s1 ⟨vs, H1, I1, r1, m1, d1, h1, v, ev, e1, hr1, vd1, hp1⟩ => ?_) (by rw [hs]; rfl) (by rw [hs]; rfl) rfl rfl
  subst ev
  cases r1 with
  | cons ru rn =>
    cases rn
    refine PyProof.Rows.kws_cons (thn (hb.run pins s1 σ H1 _ I1 ⟨m1, ρ, h1, hr1, er.mono e1, post_bind hp1⟩) fun w s2 ⟨y, H2, I2, ry, m2, d2, h2, e2, hr2, vd2, hp2⟩ => PyProof.Rows.kws_nil ?_)
    have vd1 := vd1.mono e2
    cases d2 with
    | int d =>
      have hp3 : post G W σ m2 H2 Q (match lstOf h2 d1 with
        | some ds => (match intsD ds with
          | some is => .ok (.int (mxd d is)) h2
          | none => .stk)
        | none => .stk) := hp2
      cases vd2
      split at hp3
      · rename_i ds hds
        split at hp3
        · rename_i is his
          obtain ⟨pp, vs, rfl, hsq, hvs⟩ := lst_of hr2 vd1 hds
          have := ints_of hvs his
          subst this
          exact call_maxd ok.calm ok.hu I2 ru ry (ok.hK ▸ hsq) (hp3 m2 _ H2 .refl hr2 (.int _))
        · exact hp3.elim
      · exact hp3.elim
    | _ => exact hp2.elim
theorem k_isi {x y : Str} (t : Ty) (ok : XOk T G W F N S X) (hx : x = "isinstance") (hy : y = tyName t) (ha : PE X e (tE G W F e')) (hf : T.free.contains x = true := by kernel_rfl) (hg : glC S x = true := by kernel_rfl) (hf2 : T.free.contains y = true := by kernel_rfl) (hg2 : glC S y = true := by kernel_rfl)
    (he : starEach [e, .Name y p2] X.env = [(false, eval e X.env), (false, eval (.Name y p2) X.env)] := by rfl) :
    PE X (.Call (.Name x p) [e, .Name y p2] [] pos) (tE G W F (.bfn (.isi t) (.cons e' .nil))) := by
  subst hx
  subst hy
  obtain ⟨g1, g2, g3⟩ := gl_of ok hg
  obtain ⟨k1, k2, k3⟩ := gl_of ok hg2
  exact r_isi ok.hK g1 (ok.free _ hf) rfl ha (pe_bltn k1 (ok.free _ hf2) (by cases t <;> rfl) rfl k3 k2) g3 g2 he
theorem k_met {f : Mid} {mn : Str} (hm : mn = mname f) (ok : XOk T G W F N S X) (ho : PE X o (tE G W F o')) (ha : PA X (e :: es) (tEs G W F es'))
    (hbase : attributeBase o mn X.env (eval o X.env) = eval o X.env := by rfl)
    (hfew : ((backTo pos (starEach (e :: es) X.env)).all (fun x => !x.1) && (backToKw pos (keywordEach [] X.env)).all (fun x => x.1.isSome)
      && decide ((e :: es).length + ([] : List Keyword).length + (if ([] : List Keyword).isEmpty then 0 else 1) < 30)) = true := by rfl)
    (hline : (apos.endLine == pos.line) = true := by rfl) (hst : starEach (e :: es) X.env = (false, eval e X.env) :: starEach es X.env := by rfl) (hplain : (backTo pos (starEach es X.env)).any (·.1) = false := by rfl) :
    PE X (.Call (.Attribute o mn apos) (e :: es) [] pos) (tE G W F (.met f o' es')) := by
  subst hm
  exact r_met ok.hK ok.hP ok.hw ok.hu ho ha hbase hfew hline hst hplain
theorem k_met0 {f : Mid} {mn : Str} (hm : mn = mname f) (ok : XOk T G W F N S X) (ho : PE X o (tE G W F o'))
    (hbase : attributeBase o mn X.env (eval o X.env) = eval o X.env := by rfl) (hline : (apos.endLine == pos.line) = true := by rfl) :
    PE X (.Call (.Attribute o mn apos) [] [] pos) (tE G W F (.met f o' .nil)) := by
  subst hm
  exact r_met0 ok.hK ok.hP ok.hw ok.hu ho hbase hline
/-! targets, walks -/
theorem st_of {x : Str} {i : Nat} (ok : XOk T G W F N S X) (h : stC N S i x = true) : X.N[i]? = some x ∧ X.env.scope.names.lookup x = some .local := by
  rw [ok.hN, ok.hs]
  exact stC_ok h
theorem g_name (i : Nat) {x : Str} (ok : XOk T G W F N S X) (h : stC N S i x = true := by kernel_rfl) : PG X (.Name x pos) (tG G F (.name i)) := rg_name ok.nd (st_of ok h).1 (.inl (st_of ok h).2) (.inr (st_of ok h).2)
/-- in a block, a name may be a cell -/
def cellC (N : List Str) (sc : Scope) (i : Nat) (x : Str) : Bool := decide (N[i]? = some x) && (match sc.names.lookup x with | some .cell => true | _ => false)
theorem cellC_ok {N : List Str} {sc : Scope} {i : Nat} {x : Str} (h : cellC N sc i x = true) : N[i]? = some x ∧ sc.names.lookup x = some .cell := by
  unfold cellC at h
  simp only [Bool.and_eq_true, decide_eq_true_eq] at h
  refine ⟨h.1, ?_⟩
  have q := h.2
  split at q
  · rename_i e; exact e
  · cases q
theorem cell_of {x : Str} {i : Nat} (ok : XOk T G W F N S X) (h : cellC N S i x = true) : X.N[i]? = some x ∧ X.env.scope.names.lookup x = some .cell := by
  rw [ok.hN, ok.hs]
  exact cellC_ok h
theorem g_cell (i : Nat) {x : Str} (ok : XOk T G W F N S X) (hf : X.fn x = true) (h : cellC N S i x = true := by kernel_rfl) : PG X (.Name x pos) (tG G F (.name i)) := rg_name ok.nd (cell_of ok h).1 (.inr (cell_of ok h).2) (.inl hf)
theorem evTs_len : ∀ (ts : Tgs) (n : Nat), (match ts with | .nil => true | _ => true) = true → True := fun _ _ _ => trivial
def tgsN : Tgs → Nat
  | .nil => 0
  | .cons _ r => tgsN r + 1
theorem evTs_short : ∀ (ts : Tgs) (ds : List D) (ρ : Env) (h : PH), ds.length ≠ tgsN ts → ∀ ρ' h', evTs F ts ds ρ h ≠ .ok ρ' h'
  | .nil, [], ρ, h, n, ρ', h' => absurd rfl n
  | .nil, d :: ds, ρ, h, n, ρ', h' => fun e => nomatch e
  | .cons t ts, [], ρ, h, n, ρ', h' => fun e => nomatch e
  | .cons t ts, d :: ds, ρ, h, n, ρ', h' => by
    intro e
    have e2 : ((evT F t d ρ h).bind fun ρ h => evTs F ts ds ρ h) = .ok ρ' h' := e
    cases q : evT F t d ρ h with
    | stk => rw [q] at e2; cases e2
    | exc c h => rw [q] at e2; cases e2
    | ok ρ1 h1 =>
      rw [q] at e2
      exact evTs_short ts ds ρ1 h1 (by simpa [tgsN] using n) ρ' h' e2
theorem g_tup {tgs : List Expr} {tgs' : Tgs} {k : Nat} (ok : XOk T G W F N S X) (ha : PGs X tgs (tGs G F tgs')) (hn : tgsN tgs' = tgs.length := by rfl) (hl : (assignEach tgs X.env).length = tgs.length := by rfl) (hst : (assignEach tgs X.env).findIdx? (·.1) = none := by rfl) :
    PG X (.Tuple tgs k pos) (tG G F (.tup tgs')) := rg_tup ok.calm ok.hK ha (fun ds ρ h n => evTs_short tgs' ds ρ h (by rw [hn]; exact n)) hl hst
theorem gs_cons {tg : Expr} {tgs : List Expr} {tg' : Tg} {tgs' : Tgs} (h1 : PG X tg (tG G F tg')) (h2 : PGs X tgs (tGs G F tgs')) (hs : (assignEach (tg :: tgs) X.env).map (·.2) = assign tg X.env :: (assignEach tgs X.env).map (·.2) := by rfl) : PGs X (tg :: tgs) (tGs G F (.cons tg' tgs')) := rgs_cons h1 h2 hs
theorem i_seq {l : Expr} {l' : Ex} (ok : XOk T G W F N S X) (hl : PE X l (tE G W F l')) : PI X tg l (tI G W F (.seq l')) := ri_seq ok.hK hl
theorem i_rng1 (ok : XOk T G W F N S X) (he : PE X e (tE G W F e')) (hf : T.free.contains "range" = true := by kernel_rfl) (hg : glC S "range" = true := by kernel_rfl) (hs : starEach [e] X.env = [(false, eval e X.env)] := by rfl) : PI X tg (.Call (.Name "range" p) [e] [] pos) (tI G W F (.rng1 e')) := ri_rng1 (gl_of ok hg).1 (ok.free _ hf) he hs
theorem i_rng2 (ok : XOk T G W F N S X) (he : PE X e (tE G W F e')) (hff : PE X f (tE G W F f')) (hf : T.free.contains "range" = true := by kernel_rfl) (hg : glC S "range" = true := by kernel_rfl) (hs : starEach [e, f] X.env = [(false, eval e X.env), (false, eval f X.env)] := by rfl) (hs2 : starEach [f] X.env = [(false, eval f X.env)] := by rfl) :
    PI X tg (.Call (.Name "range" p) [e, f] [] pos) (tI G W F (.rng2 e' f')) := ri_rng2 (gl_of ok hg).1 (ok.free _ hf) he hff hs hs2
theorem i_enum (ok : XOk T G W F N S X) (he : PE X e (tE G W F e')) (hf : T.free.contains "enumerate" = true := by kernel_rfl) (hg : glC S "enumerate" = true := by kernel_rfl) (hs : starEach [e] X.env = [(false, eval e X.env)] := by rfl) : PI X (.Tuple elts kk tpos) (.Call (.Name "enumerate" p) [e] [] pos) (tI G W F (.enum e')) := ri_enum ok.hK (gl_of ok hg).1 (ok.free _ hf) he hs
theorem i_zip (ok : XOk T G W F N S X) (he : PE X e (tE G W F e')) (hff : PE X f (tE G W F f')) (hf : T.free.contains "zip" = true := by kernel_rfl) (hg : glC S "zip" = true := by kernel_rfl) (hs : starEach [e, f] X.env = [(false, eval e X.env), (false, eval f X.env)] := by rfl) (hs2 : starEach [f] X.env = [(false, eval f X.env)] := by rfl) :
    PI X (.Tuple elts kk tpos) (.Call (.Name "zip" p) [e, f] [] pos) (tI G W F (.zip e' f')) := ri_zip ok.hK (gl_of ok hg).1 (ok.free _ hf) he hff hs hs2
/-! comprehensions -/
theorem k_lc (own : List (Str × Nat)) (ok : XOk T G W F N S X) (hi : PI X tg iter (tI G W F i'))
    (hg : ∀ X2 : Cx, XOk T G W0 F N (relS sc S) X2 → (∀ x, sc.names.lookup x = some .cell → X2.fn x = true) → PG X2 tg (tG G F tg'))
    (ht : ∀ X2 : Cx, XOk T G W0 F N (relS sc S) X2 → PTs X2 ifs (tC' G F cs'))
    (he : ∀ X2 : Cx, XOk T G W0 F N (relS sc S) X2 → PE X2 e (tE G W0 F e')) (hb : blkC N S sc own = true := by kernel_rfl)
    (hw : (tgS tg').all (fun i => (own.map (·.2)).contains i) = true := by kernel_rfl) (hk : sc.kind = .function := by rfl) (hs : ∀ x, foldedSetIterable iter X.env x = pure x := by intro _; rfl) :
    PE X (.ListComp e [⟨tg, iter, ifs, 0⟩] sc pos) (tE G W F (.lc e' tg' i' cs' (own.map (·.2)))) := by
  have bo : BlkOk X.N X.env.scope sc own := by rw [ok.hN, ok.hs]; exact blkOk_by hb
  exact (pe_lc ok.calm ok.nd hi bo (fun s H C cl fp => hg _ (ok.blk hk) fun x hx => by show (sc.names.lookup x == some .cell) = true; rw [hx]; rfl) (fun s H C cl fp => ht _ (ok.blk hk)) (fun s H C cl fp => he _ (ok.blk hk)) hs).weaken
    (r_lc ok.calm ok.nd hi bo (fun s H C cl fp => hg _ (ok.blk hk) fun x hx => by show (sc.names.lookup x == some .cell) = true; rw [hx]; rfl) (fun s H C cl fp => ht _ (ok.blk hk)) (fun s H C cl fp => he _ (ok.blk hk)) hs
      (fun i hi => by simpa using List.all_eq_true.mp hw i hi))
theorem s_setLc {y : Str} (i : Nat) (own : List (Str × Nat)) (ok : XOk T G W F N S X) (hi : PI X tg iter (tI G W F i'))
    (hg : ∀ X2 : Cx, XOk T G W0 F N (relS sc S) X2 → (∀ x, sc.names.lookup x = some .cell → X2.fn x = true) → PG X2 tg (tG G F tg'))
    (ht : ∀ X2 : Cx, XOk T G W0 F N (relS sc S) X2 → PTs X2 ifs (tC' G F cs'))
    (he : ∀ X2 : Cx, XOk T G W0 F N (relS sc S) X2 → PE X2 e (tE G W0 F e')) (hy : stC N S i y = true := by kernel_rfl) (hb : blkC N S sc own = true := by kernel_rfl)
    (hw : (tgS tg').all (fun i => (own.map (·.2)).contains i) = true := by kernel_rfl) (hsw : (sc.names.any fun (n, k) => n == y && (k == .local || k == .cell)) = false := by kernel_rfl) (hl : (py.line == pos.line) = true := by rfl) (hk : sc.kind = .function := by rfl) (hs : ∀ x, foldedSetIterable iter X.env x = pure x := by intro _; rfl) :
    PS X (.Assign [.Name y py] (.ListComp e [⟨tg, iter, ifs, 0⟩] sc pos) spos) (tS G W F (.asg (.name i) (.lc e' tg' i' cs' (own.map (·.2))))) := by
  have bo : BlkOk X.N X.env.scope sc own := by rw [ok.hN, ok.hs]; exact blkOk_by hb
  obtain ⟨y1, y2⟩ := st_of ok hy
  exact rs_setT (ps_setLc ok.calm ok.nd y1 y2 (sw_true ok.kd y2 hl hsw) hi bo (fun s H C cl fp => hg _ (ok.blk hk) fun x hx => by show (sc.names.lookup x == some .cell) = true; rw [hx]; rfl) (fun s H C cl fp => ht _ (ok.blk hk)) (fun s H C cl fp => he _ (ok.blk hk)) hs)
    (r_lc ok.calm ok.nd hi bo (fun s H C cl fp => hg _ (ok.blk hk) fun x hx => by show (sc.names.lookup x == some .cell) = true; rw [hx]; rfl) (fun s H C cl fp => ht _ (ok.blk hk)) (fun s H C cl fp => he _ (ok.blk hk)) hs
      (fun i hi => by simpa using List.all_eq_true.mp hw i hi))
/-! statements -/
theorem s_set {y : Str} (i : Nat) (ok : XOk T G W F N S X) (he : PE X e (tE G W F e')) (hy : stC N S i y = true := by kernel_rfl) (hs : swapsWith e (some (.Name y py)) spos.line X.env = pure false := by rfl) : PS X (.Assign [.Name y py] e spos) (tS G W F (.asg (.name i) e')) :=
  rs_set ok.nd (st_of ok hy).1 (.inl (st_of ok hy).2) he hs (.inr (st_of ok hy).2)
theorem s_setC {y : Str} (i : Nat) (ok : XOk T G W F N S X) (hf : X.fn y = true) (he : PE X e (tE G W F e')) (hy : cellC N S i y = true := by kernel_rfl) (hs : swapsWith e (some (.Name y py)) spos.line X.env = pure false := by rfl) : PS X (.Assign [.Name y py] e spos) (tS G W F (.asg (.name i) e')) :=
  rs_set ok.nd (cell_of ok hy).1 (.inr (cell_of ok hy).2) he hs (.inl hf)
theorem s_asg (he : PE X e (tE G W F e')) (hg : PG X tg (tG G F tg')) (hs : swapsWithSole [tg] e spos.line X.env = pure false := by rfl) (hw : swappedStores [tg] e X.env = pure none := by rfl)
    (h1 : (assignEach [tg] X.env).map (·.2) = [assign tg X.env] := by rfl) : PS X (.Assign [tg] e spos) (tS G W F (.asg tg' e')) := rs_asg he hg hs hw h1
theorem s_aug {y : Str} (i : Nat) {bo : Bop} {op : Operator} (ok : XOk T G W F N S X) (hop : match bo with | .add => op = .Add | .sub => op = .Sub | _ => False) (he : PE X e (tE G W F e')) (hy : stC N S i y = true := by kernel_rfl) : PS X (.AugAssign (.Name y pos') op e pos) (tS G W F (.aug i bo e')) :=
  rs_aug hop ok.nd (st_of ok hy).1 (.inl (st_of ok hy).2) he (.inr (st_of ok hy).2)
theorem s_ex (he : PE X e (tE G W F e')) (hs : swapsWith e none pos.line X.env = pure false := by rfl) : PS X (.Expr e pos) (tS G W F (.ex e')) := rs_ex he hs
theorem s_for {body : List Stmt} {body' : Ss} (pa : PassesOwn (model X.prog X.w) X.A X.env X.xe) (ok : XOk T G W F N S X) (hi : PI X tg iter (tI G W F i')) (hg : PG X tg (tG G F tg')) (hb : PSs X body (tSs G W F body')) (hs : ∀ x, foldedSetIterable iter X.env x = pure x := by intro _; rfl) :
    PS X (.For tg iter body [] pos) (tS G W F (.for_ tg' i' body')) := rs_for pa ok.calm hi hg hb hs
/-! names of the text: constants, defs as values, classes -/
theorem k_con {x : Str} (d : D) (ok : XOk T G W F N S X) (hd : T.con.lookup x = some d := by kernel_rfl) (hg : glC S x = true := by kernel_rfl) : PE X (.Name x pos) (tE G W F (.cst d)) := by
  obtain ⟨u, v, h1, h2, h3⟩ := ok.con x d hd
  obtain ⟨g1, g2, g3⟩ := gl_of ok hg
  exact r_cst (pe_glob g1 h1 h2 g2) h3
theorem k_fnv {x : Str} (k : Nat) (dfl : List D) (ok : XOk T G W F N S X) (hd : T.defs.lookup x = some (k, dfl) := by kernel_rfl) (hg : glC S x = true := by kernel_rfl) : PE X (.Name x pos) (tE G W F (.cst (.fn k))) := by
  obtain ⟨h1, h2⟩ := ok.fnc x k dfl hd
  obtain ⟨g1, g2, g3⟩ := gl_of ok hg
  exact r_cst (pe_glob g1 h1 (v := .ref (G.fa k)) rfl g2) fun _ _ => .fn rfl
theorem k_callv {x : Str} (i : Nat) (ok : XOk T G W F N S X) (ha : PA X (e :: es) (tEs G W F es')) (h : nmC N S i x = true := by kernel_rfl) (he : starEach (e :: es) X.env = (false, eval e X.env) :: starEach es X.env := by rfl) (hpl : (backTo pos (starEach es X.env)).any (·.1) = false := by rfl) :
    PE X (.Call (.Name x p) (e :: es) [] pos) (tE G W F (.callv i es')) := by
  obtain ⟨h1, h2, h3, h4⟩ := nmC_ok h
  exact r_callv ok.fnk ok.tk (by rw [ok.hN]; exact h1) (by rw [ok.hs]; exact h2) ha h3 h4 he hpl
theorem mk_none {c : Nat} (hn : F.ini c = none) {es' : Exs} {ρ : Env} {h : PH} {m : List Addr} {H : Hp} {σ : L2.St} {Q : VK} (hp : post G W σ m H Q (evE F (.mk c es') ρ h)) : post G W σ m H Q ((evEs F es' ρ h).bind fun _ _ => .stk) := by
  have hp' : post G W σ m H Q ((evEs F es' ρ h).bind fun xs h => match F.ini c with
    | some f => (F.call f (.ref h.length :: xs) (h ++ [.ins c []])).bind fun r h' => if r = .non then .ok (.ref h.length) h' else .stk
    | none => .stk) := hp
  rw [hn] at hp'
  exact hp'
theorem k_mk {x : Str} (c k : Nat) (ok : XOk T G W F N S X) (ha : PA X (e :: es) (tEs G W F es')) (hi : F.ini c = some k) (hd : T.cls.lookup x = some c := by kernel_rfl) (hg : glC S x = true := by kernel_rfl) (he : starEach (e :: es) X.env = (false, eval e X.env) :: starEach es X.env := by rfl) (hpl : (backTo pos (starEach es X.env)).any (·.1) = false := by rfl) :
    PE X (.Call (.Name x p) (e :: es) [] pos) (tE G W F (.mk c es')) := by
  obtain ⟨g1, g2, g3⟩ := gl_of ok hg
  obtain ⟨h1, h2⟩ := ok.ini c k hi
  exact r_mk (dfl := []) 0 hi h1 h2 ok.tk g1 (ok.cls x c hd) ha rfl g2 he hpl
theorem k_mk0 {x : Str} (c k : Nat) (ok : XOk T G W F N S X) (hi : F.ini c = some k) (hd : T.cls.lookup x = some c := by kernel_rfl) (hg : glC S x = true := by kernel_rfl) :
    PE X (.Call (.Name x p) [] [] pos) (tE G W F (.mk c .nil)) := by
  obtain ⟨g1, g2, g3⟩ := gl_of ok hg
  obtain ⟨h1, h2⟩ := ok.ini c k hi
  exact r_mk0 (dfl := []) 0 hi h1 h2 ok.tk g1 (ok.cls x c hd) rfl g2
theorem k_fld {f : Str} (ok : XOk T G W F N S X) (ha : PE X a (tE G W F a')) (hb : attributeBase a f X.env (eval a X.env) = eval a X.env := by rfl) : PE X (.Attribute a f pos) (tE G W F (.fld a' f)) := r_fld (ok.fld f) ha hb
theorem k_umt {mn : Str} {pl : Sem Bool} (ok : XOk T G W F N S X) (ho : PE X o (tE G W F o')) (ha : PA X (e :: es) (tEs G W F es')) (hst : starEach (e :: es) X.env = (false, eval e X.env) :: starEach es X.env := by rfl) (hpl : (backTo pos (starEach es X.env)).any (·.1) = false := by rfl)
    (ht : eval (.Call (.Attribute o mn apos) (e :: es) [] pos) X.env = (do
      let ov ← eval o X.env
      standAt apos.atName
      let (f, first) ← holding [ov] (getMethod ov mn pl)
      callWith pos f first (backTo pos (starEach (e :: es) X.env)) (backToKw pos (keywordEach [] X.env))) := by rfl) : PE X (.Call (.Attribute o mn apos) (e :: es) [] pos) (tE G W F (.umt o' mn es')) :=
  r_umt (pl := pl) (ok.mth mn) ok.tk ho ha hst hpl ht
theorem k_umt0 {mn : Str} {pl : Sem Bool} (ok : XOk T G W F N S X) (ho : PE X o (tE G W F o'))
    (ht : eval (.Call (.Attribute o mn apos) [] [] pos) X.env = (do
      let ov ← eval o X.env
      standAt apos.atName
      let (f, first) ← holding [ov] (getMethod ov mn pl)
      callWith pos f first (backTo pos (starEach [] X.env)) (backToKw pos (keywordEach [] X.env))) := by rfl) : PE X (.Call (.Attribute o mn apos) [] [] pos) (tE G W F (.umt o' mn .nil)) :=
  r_umt0 (pl := pl) (ok.mth mn) ok.tk ho ht
theorem k_rev {k : Nat} {p1 p2 p3 : Pos} (ok : XOk T G W F N S X) (ha : PE X a (tE G W F a')) : PE X (.Subscript a (.Slice none none (some (.UnaryOp .USub (.Constant (.int 1) k p1) p2)) p3) pos) (tE G W F (.rev a')) := r_rev ok.hK ha
theorem s_sfd {f : Str} (ok : XOk T G W F N S X) (ho : PE X o (tE G W F o')) (he : PE X e (tE G W F e')) (hs : swapsWith e (some (.Attribute o f pos')) pos.line X.env = pure false := by rfl) : PS X (.Assign [.Attribute o f pos'] e pos) (tS G W F (.sfd o' f e')) := rs_sfd (ok.fld f) ho he hs
theorem s_par {x y : Str} {px py pt : Pos} {kt k2 : Nat} {pt2 : Pos} (i j : Nat) (ok : XOk T G W F N S X) (ha : PE X a (tE G W F a')) (hb : PE X b (tE G W F b')) (hij : i ≠ j := by decide) (hx : stC N S i x = true := by kernel_rfl) (hy : stC N S j y = true := by kernel_rfl)
    (hs1 : starEach [a, b] X.env = (false, eval a X.env) :: starEach [b] X.env := by rfl) (hs2 : starEach [b] X.env = (false, eval b X.env) :: starEach [] X.env := by rfl)
    (hw : swpC x y px py a b = true := by kernel_rfl)
    (hs : swapsWithSole [.Tuple [.Name x px, .Name y py] kt pt] (.Tuple [a, b] k2 pt2) pos.line X.env = pure false := by rfl) :
    PS X (.Assign [.Tuple [.Name x px, .Name y py] kt pt] (.Tuple [a, b] k2 pt2) pos) (tS G W F (.par i j a' b')) :=
  rs_par ok.calm ok.nd (st_of ok hx).1 (st_of ok hy).1 hij (st_of ok hx).2 (st_of ok hy).2 ha hb hs1 hs2 (swapped_ok ok.kd (st_of ok hx).2 (st_of ok hy).2 hw) hs
theorem s_thru {h₀ : ExceptHandler} {hs : List ExceptHandler} {body : List Stmt} {body' : Ss} (ok : XOk T G W F N S X) (hb : XOk T G W0 F N S X.nox → PSs X.nox body (tSs G W0 F body')) : PS X (.Try body (h₀ :: hs) [] [] pos) (tS G W F (.thru body')) := rs_thru (hb ok.nox)
theorem k_dget {x : Str} (kvs : List (Str × D)) (ok : XOk T G W F N S X) (ha : PE X e (tE G W F e')) (hd : T.dic.lookup x = some kvs := by kernel_rfl) (hg : glC S x = true := by kernel_rfl)
    (hbase : attributeBase (.Name x p) "get" X.env (eval (.Name x p) X.env) = eval (.Name x p) X.env := by rfl)
    (hfew : ((backTo pos (starEach [e] X.env)).all (fun x => !x.1) && (backToKw pos (keywordEach [] X.env)).all (fun x => x.1.isSome)
      && decide (([e] : List Expr).length + ([] : List Keyword).length + (if ([] : List Keyword).isEmpty then 0 else 1) < 30)) = true := by rfl)
    (hline : (apos.endLine == pos.line) = true := by rfl) (hst : starEach [e] X.env = (false, eval e X.env) :: starEach [] X.env := by rfl) (hplain : (backTo pos (starEach [] X.env)).any (·.1) = false := by rfl) :
    PE X (.Call (.Attribute (.Name x p) "get" apos) [e] [] pos) (tE G W F (.cdct kvs e')) := by
  obtain ⟨al, h1, ⟨es, n, D⟩, hget⟩ := ok.dic x kvs hd
  obtain ⟨g1, g2, g3⟩ := gl_of ok hg
  refine ⟨fun pins s σ H Q I ⟨m, ρ, h, hh, er, hp⟩ => ?_⟩
  refine wpAny_Call_method_late hbase hfew hline rfl (thn ((pe_glob (pos := p) g1 h1 (v := .ref al) rfl g2).run pins s σ H (fun v H1 => v = .ref al ∧ H1 = H) I ⟨rfl, rfl⟩) fun v s1 ⟨x1, H1, I1, rx, ex, eH⟩ => ?_)
  subst ex eH
  obtain rfl : v = Value.ref al := rx
  have hm := PySem.W.mapOf_K (prog := X.prog) (w := X.w) I1.kIn D.at_ D.lit
  refine ⟨"dict", "dict.get", PySem.F.plainAttrs_dict, PySem.F.slot_dict_get, PySem.F.type_dict_get, hm.typeIs, (fun b q => by cases q; exact ⟨_, I1.kIn _ _ D.at_, rfl⟩), ?_⟩
  have hp' : post G W σ m H1 Q ((evE F e' ρ h).bind fun x h => match x with
    | .str z => .ok ((kvs.lookup z).getD .non) h
    | _ => .stk) := hp
  have hA := (pa_cons (X := X) ha pa_nil hst).run pos pins s1 σ H1 (fun vs H2 => ∃ v m2 d2 h2, vs = [v] ∧ Ext G.K m H1 m2 H2 ∧ HR G m2 h2 H2 ∧ VD G m2 H2 v d2 ∧ post G W σ m2 H2 Q (match d2 with
    | .str z => .ok ((kvs.lookup z).getD .non) h2
    | _ => .stk)) I1 ⟨m, ρ, h, hh, er, post_imp (post_bind hp') fun v H2 ⟨m2, d2, h2, e2, hr2, vd2, hp2⟩ => ⟨v, m2, d2, h2, rfl, e2, hr2, vd2, hp2⟩⟩
  rw [hst] at hA ⊢
  refine Calls.callWith_builtin (by show (false || (backTo pos (starEach [] X.env)).any (·.1)) = false; rw [hplain] <;> rfl) (Calls.evalArgs_plain ?_)
  refine thn hA fun us s2 ⟨vs, H2, I2, r2, v2, m2, d2, h2, ev, e2, hr2, vd2, hp2⟩ => ?_
  subst ev
  obtain ⟨u2, rfl, ru⟩ := vals1 r2
  cases vd2 with
  | str z =>
    obtain ⟨t, rfl⟩ := (show ∃ t, u2 = Value.str z t from ru)
    rcases hget z with ⟨q1, q2⟩ | ⟨d, u, v, q1, q2, q3, q4⟩
    · simp only [q1] at hp2
      exact kd_get D I2 q2 fun s' I' => ⟨.non, H2, I', rfl, hp2 m2 .non H2 .refl hr2 .non⟩
    · simp only [q1] at hp2
      exact kd_get D I2 q2 fun s' I' => ⟨v, H2, I', q3, hp2 m2 v H2 .refl hr2 (q4 _ _)⟩
  | _ => exact hp2.elim
end
end Mp

set_option Elab.async false
set_option linter.all false
set_option maxRecDepth 100000
set_option maxHeartbeats 1000000
/-! C12: all defs of a text keep what the interpreter says; a law by its interpreter. -/
namespace Mp
open PySem PySem.Spec PyProof.Rows L2
/-- a def with its slots, its parameters and its body in the interpreter's words -/
structure Df where
  at_ : Str × Option Str
  x : Str
  qual : Str
  params : Arguments
  body : List Stmt
  scope : Scope
  N : List Str
  ps : List Str
  b : Ss
def Df.fd (d : Df) : Fd := ⟨d.ps.length, d.N.length, d.b⟩
theorem starts {G : Gm} {m : List Addr} {H : Hp} {N : List Str} {vs : List V} {ds : List D} (h : VDs G m H vs ds) : ER G m H (L2.start N vs) (startE N.length ds) := by
  unfold L2.start startE
  refine ⟨by simp [h.len], fun i d q => ?_⟩
  by_cases hi : i < ds.length
  · rw [List.getElem?_append_left (by simpa using hi), List.getElem?_map] at q
    cases e : ds[i]? with
    | none => rw [e] at q; cases q
    | some z =>
      rw [e] at q
      cases q
      obtain ⟨v, h1, h2⟩ := h.get e
      refine ⟨v, ?_, h2⟩
      rw [List.getElem?_append_left (by rw [List.length_map, h.len]; exact hi), List.getElem?_map, h1]
      rfl
  · rw [List.getElem?_append_right (by simpa using hi), List.getElem?_replicate] at q
    split at q <;> cases q
/-- what a text's defs are: what stands in K -/
structure TxtOk (P : Program) (w : World) (K : PySem.W.Frag) (mg : Str → Option Value) (G : Gm) (T : TD) (Tb : Tb) (dfs : List Df) : Prop where
  hK : G.K = K
  hP : G.P = P
  hw : G.w = w
  fds : ∀ (k : Nat) (d : Df), dfs[k]? = some d → ∃ fd, FunD K d.x d.qual d.params d.body d.scope [] [] (G.fa k) fd ∧ Binds K fd d.ps []
  nms : ∀ x k dfl, T.defs.lookup x = some (k, dfl) → mg x = some (.ref (G.fa k)) ∧ dfl = [] ∧ k < dfs.length
  free : ∀ x, T.free.contains x = true → mg x = none
  con : ∀ x d, T.con.lookup x = some d → conOk G mg x d
  cls : ∀ x c, T.cls.lookup x = some c → mg x = some (.ref (G.ca c))
  ini : ∀ c k, Tb.ini c = some k → Mk K (G.ca c) (G.fa k) ∧ k < dfs.length
  mth : ∀ mn c k, Tb.mth c mn = some k → Cls K (G.ca c) ∧ Meth K (G.ca c) mn (G.fa k) ∧ k < dfs.length
  fld : ∀ f c, Tb.fld c f = true → Cls K (G.ca c) ∧ NoAttr K (G.ca c) f
  dic : ∀ x kvs, T.dic.lookup x = some kvs → ∃ a, mg x = some (.ref a) ∧ (∃ es n, KDict K w a es n) ∧ ∀ z, (kvs.lookup z = none ∧ PySem.W.nsIn K a z = some none) ∨ ∃ d u v, kvs.lookup z = some d ∧ PySem.W.nsIn K a z = some (some u) ∧ RelV v u ∧ ∀ m H, VD G m H v d
/-- what the text says of itself -/
structure DfsOk (T : TD) (Tb : Tb) (dfs : List Df) : Prop where
  sc : ∀ (k : Nat) (d : Df), dfs[k]? = some d → FnScope d.N d.ps d.scope
  bd : ∀ (k : Nat) (d : Df), dfs[k]? = some d → ∀ (G : Gm) (W : WX) (F : Fns) (X : Cx), F.ini = Tb.ini → XOk T G W F d.N d.scope X → PassesOwn (model X.prog X.w) X.A X.env X.xe → (∀ x, X.fn x = true) → PSs X d.body (tSs G W F d.b)
theorem txt_ok {P : Program} {w : World} {K : PySem.W.Frag} {mg : Str → Option Value} {base : Heap} {G : Gm} {T : TD} {dfs : List Df} {Tb : Tb} (ht : TxtOk P w K mg G T Tb dfs) (hd : DfsOk T Tb dfs) (hb : Tb.fds = dfs.map Df.fd) :
    ∀ (n k : Nat) (d : Df), dfs[k]? = some d → ∃ fd, FnOk P w K mg base (L2N.CX P w) (2 * n) (G.fa k) fd d.ps (spF G (Tb.fns n) k) ∧ FunD K d.x d.qual d.params d.body d.scope [] [] (G.fa k) fd ∧ Binds K fd d.ps []
  | 0, k, d, hk => by
    obtain ⟨fd, h1, h2⟩ := ht.fds k d hk
    exact ⟨fd, ⟨fun vs H Q E ⟨m, args, h, _, _, z⟩ => z.elim, fun A outer s H args us vs Q E _ _ _ _ ⟨m, args, h, _, _, z⟩ => z.elim⟩, h1, h2⟩
  | n + 1, k, d, hk => by
    have ih := txt_ok (P := P) (w := w) (base := base) (Tb := Tb) ht hd hb n
    obtain ⟨fd, h1, h2⟩ := ht.fds k d hk
    have hfd : Tb.fds[k]? = some d.fd := by rw [hb, List.getElem?_map, hk]; rfl
    have hcall : ∀ args h, (Tb.fns (n + 1)).call k args h = if args.length = d.ps.length then (evSs (Tb.fns n) d.b (startE d.N.length args) h).fin else .stk := by
      intro args h
      show (match Tb.fds[k]? with
        | some fd => if args.length = fd.np then (evSs (Tb.fns n) fd.body (startE fd.nl args) h).fin else .stk
        | none => .stk) = _
      rw [hfd]
      rfl
    refine ⟨fd, h1.ok (k := 2 * n + 1) (hd.sc k d hk) (fun vs H Q E ⟨m, args, h, hr, hv, z⟩ => ?_) (fun cdv A outer s H vs Q E hroom ⟨m, args, h, hr, hv, z⟩ => ?_), h1, h2⟩
    · rw [hcall] at z
      by_cases hl : args.length = d.ps.length
      · rw [hv.len, hl]
      · rw [if_neg hl] at z; exact z.elim
    · rw [hcall] at z
      by_cases hl : args.length = d.ps.length
      · rw [if_pos hl] at z
        let X : Cx := cxOf (L2N.CX P w) P w K mg base d.N d.qual d.scope (G.fa k) cdv A outer s H E
        have tk : L2N.Takes X (fun cls dd _ H => E cls dd H) := L2N.takes_of (X := X) rfl rfl rfl rfl
        have pa : PassesOwn (model X.prog X.w) X.A X.env X.xe := L2.passes_of (X := X) rfl
        have ok : XOk T G (fun cls dd _ H => E cls dd H) (Tb.fns n) d.N d.scope X := by
          have fc : ∀ j, j < dfs.length → FnC G (Tb.fns n) X j [] := fun j g3 => by
            obtain ⟨fd2, q1, q2, q3⟩ := ih j dfs[j] (List.getElem?_eq_getElem g3)
            exact ⟨⟨2 * n, fd2, _, q1, hroom, q2.kp, fun jj => ⟨[], [], .nil, q3, fun m H => by rw [List.drop_nil]; exact .nil⟩⟩⟩
          have e1 : (Tb.fns n).ini = Tb.ini := by cases n <;> rfl
          have e2 : (Tb.fns n).mth = Tb.mth := by cases n <;> rfl
          have e3 : (Tb.fns n).fld = Tb.fld := by cases n <;> rfl
          have e4 : ∀ k, (Tb.fns n).has k = decide (k < Tb.fds.length) := fun k => by cases n <;> rfl
          have el : Tb.fds.length = dfs.length := by rw [hb, List.length_map]
          refine ⟨rfl, rfl, ht.hK.symm, ht.hP.symm, ht.hw.symm, ?_, rfl, (hd.sc k d hk).nd, tk, (hd.sc k d hk).kind, fun x j dfl hx => ?_, ht.free, fun j hj => ?_, ht.con, ht.cls, fun c j hj => ?_, fun mn c j hj => ?_, fun f c hf => ?_, fun x kvs hx => ?_⟩
          · have := hroom.un
            show (A.deeper _).units + 65 < cLine
            omega
          · obtain ⟨g1, g2, g3⟩ := ht.nms x j dfl hx
            subst g2
            exact ⟨g1, fc j g3⟩
          · rw [e4, decide_eq_true_eq, el] at hj
            exact fc j hj
          · rw [e1] at hj
            obtain ⟨g1, g2⟩ := ht.ini c j hj
            exact ⟨g1, fc j g2⟩
          · rw [e2] at hj
            obtain ⟨g1, g2, g3⟩ := ht.mth mn c j hj
            exact ⟨g1, g2, fc j g3⟩
          · rw [e3] at hf
            exact ht.fld f c hf
          · obtain ⟨al, g1, g2, g3⟩ := ht.dic x kvs hx
            exact ⟨al, g1, ⟨g2, g3⟩⟩
        refine ⟨_, hd.bd k d hk G _ (Tb.fns n) X (by cases n <;> rfl) ok pa fun _ => rfl, m, startE d.N.length args, h, hr, starts hv, ?_⟩
        cases q : evSs (Tb.fns n) d.b (startE d.N.length args) h with
        | nx ρ h' => rw [q] at z; exact fun m' σ' H' e hr' er' => z m' .non H' e hr' .non
        | rt dd h' => rw [q] at z; exact z
        | bk ρ h' => rw [q] at z; exact z.elim
        | ct ρ h' => rw [q] at z; exact z.elim
        | ex c ρ h' => rw [q] at z; exact fun m' σ' H' e hr' er' => z m' H' e hr'
        | stk => rw [q] at z; exact z.elim
      · rw [if_neg hl] at z; exact z.elim
/-- the law's promise, by the interpreter's answer -/
theorem law_sp {G : Gm} {Fn : Fns} {k : Nat} {H : Hp} {a : Addr} {ns : List Int} (ho : Only H) (hs : SqL G.K H a (ns.map V.int)) {h' : PH} (hc : Fn.call k [.scr (ns.map D.int)] [] = .ok (.bl true) h') :
    spF G Fn k [.ref a] H (fun v _ => v = .bl true) fun _ _ _ => False := by
  have hf : SqF G.K H a (ns.map V.int) := by
    rcases hs with q | q
    · rcases q with z | z
      · rcases ho a with y | ⟨o, xs, y⟩
        · rw [y] at z; cases z
        · rw [y] at z; cases z
      · exact .inl z
    · exact .inr q
  have hv : ∀ ns : List Int, VDs G [] H (ns.map V.int) (ns.map D.int) := fun ns => by
    induction ns with
    | nil => exact .nil
    | cons n r ih => exact .cons (.int n) ih
  refine ⟨[], [.scr (ns.map D.int)], [], ⟨rfl, List.nodup_nil, fun l a o e _ => by simp at e⟩, .cons (.scr hf (hv ns)) .nil, ?_⟩
  rw [hc]
  intro m' v H' _ _ vd
  cases vd
  rfl
end Mp

set_option Elab.async false
set_option linter.all false
set_option maxRecDepth 100000
set_option maxHeartbeats 1000000
/-! C13: the head's facts are the text's; the end of a law. -/
namespace Mp
open PySem PySem.Spec PyProof.Rows L2
def faC (c : CD) : List He.Fa := [.glo c.name, .cls c.name] ++ (match c.ini with | some _ => [.mkr c.name] | none => []) ++ c.flds.map (.noat c.name) ++ c.mths.map fun e => .meth c.name e.1
def faOf (T : TD) : List He.Fa := T.defs.map (fun e => .glo e.1) ++ T.free.map .free ++ T.cl.flatMap faC
def dOf (d : Df) : He.DefD := ⟨d.at_, d.x, d.qual, d.params, d.body, d.scope, [], []⟩
def tdC (T : TD) (dfs : List Df) : Bool := (T.defs.all fun e => match dfs[e.2.1]? with
  | some d => decide (d.at_ = (e.1, none)) && e.2.2.isEmpty
  | none => false) && ((T.cls.all fun e => match T.cl[e.2]? with
  | some c => decide (c.name = e.1)
  | none => false) && T.cl.all fun c => (match c.ini with
    | some k => (match dfs[k]? with
      | some d => decide (d.at_ = (c.name, some ("__init__" : Str)))
      | none => false)
    | none => true) && c.mths.all fun e => match dfs[e.2]? with
      | some d => decide (d.at_ = (c.name, some e.1))
      | none => false)
def gmOf (P : Program) (w : World) (K : PySem.W.Frag) (T : TD) (dfs : List Df) : Gm := ⟨K, P, w, fun k => match dfs[k]? with
  | some d => He.fAd K d.at_
  | none => 0, fun c => match T.cl[c]? with
  | some d => He.ga K d.name
  | none => 0, fun _ => .none⟩
/-! constants -/
def allB (f : D → Value → Bool) : List D → List Value → Bool
  | [], [] => true
  | d :: ds, u :: us => f d u && allB f ds us
  | _, _ => false
def valB (K : PySem.W.Frag) : Nat → D → Value → Bool
  | _, .non, .none => true
  | _, .bl b, .bool c => b == c
  | _, .int i, .int j _ => decide (i = j)
  | _, .str x, .str y _ => decide (x = y)
  | n + 1, .tup ds, .ref a => (match K.lookup a with
    | some ⟨.type c, _, .seq its _, _⟩ => decide (c = "tuple") && (decide (its.size ≤ sizeLine) && allB (valB K n) ds its.toList)
    | _ => false)
  | _, _, _ => false
theorem allB_ok {G : Gm} {f : D → Value → Bool} (hf : ∀ d u, f d u = true → ∃ v, RelV v u ∧ ∀ m H, VD G m H v d) : ∀ (ds : List D) (us : List Value), allB f ds us = true → ∃ vs, Vals vs us ∧ ∀ m H, VDs G m H vs ds
  | [], [], _ => ⟨[], .nil, fun _ _ => .nil⟩
  | [], _ :: _, h => nomatch h
  | _ :: _, [], h => nomatch h
  | d :: ds, u :: us, h => by
    have h' : (f d u && allB f ds us) = true := h
    rw [Bool.and_eq_true] at h'
    obtain ⟨v, r, q⟩ := hf d u h'.1
    obtain ⟨vs, rs, qs⟩ := allB_ok hf ds us h'.2
    exact ⟨v :: vs, .cons r rs, fun m H => .cons (q m H) (qs m H)⟩
theorem valB_ok {G : Gm} : ∀ (n : Nat) (d : D) (u : Value), valB G.K n d u = true → ∃ v, RelV v u ∧ ∀ m H, VD G m H v d
  | n, .non, u, h => by
    cases u <;> first | exact ⟨.non, rfl, fun _ _ => .non⟩ | (cases n <;> cases h)
  | n, .bl b, u, h => by
    cases u with
    | bool c =>
      have h' : (b == c) = true := by cases n <;> exact h
      rw [beq_iff_eq] at h'
      subst h'
      exact ⟨.bl b, rfl, fun _ _ => .bl b⟩
    | _ => cases n <;> cases h
  | n, .int i, u, h => by
    cases u with
    | int j t =>
      have h' : decide (i = j) = true := by cases n <;> exact h
      rw [decide_eq_true_eq] at h'
      subst h'
      exact ⟨.int i, ⟨t, rfl⟩, fun _ _ => .int i⟩
    | _ => cases n <;> cases h
  | n, .str x, u, h => by
    cases u with
    | str y t =>
      have h' : decide (x = y) = true := by cases n <;> exact h
      rw [decide_eq_true_eq] at h'
      subst h'
      exact ⟨.str x, ⟨t, rfl⟩, fun _ _ => .str x⟩
    | _ => cases n <;> cases h
  | 0, .tup ds, u, h => by cases u <;> cases h
  | n + 1, .tup ds, u, h => by
    cases u with
    | ref a =>
      have h' : (match G.K.lookup a with
        | some ⟨.type c, _, .seq its _, _⟩ => decide (c = "tuple") && (decide (its.size ≤ sizeLine) && allB (valB G.K n) ds its.toList)
        | _ => false) = true := h
      split at h'
      · rename_i c dd its nn sl e
        simp only [Bool.and_eq_true, decide_eq_true_eq] at h'
        obtain ⟨rfl, h2, h3⟩ := h'
        obtain ⟨vs, rs, qs⟩ := allB_ok (G := G) (fun d u hh => valB_ok n d u hh) ds its.toList h3
        exact ⟨.ref a, rfl, fun m H => .tup (.inr ⟨_, its, nn, e, rfl, rfl, h2, rs⟩) (qs m H)⟩
      · cases h'
    | _ => cases h
  | n, .ref _, u, h => by cases n <;> cases u <;> cases h
  | n, .fn _, u, h => by cases n <;> cases u <;> cases h
  | n, .exn _, u, h => by cases n <;> cases u <;> cases h
  | n, .lst _, u, h => by cases n <;> cases u <;> cases h
  | n, .scr _, u, h => by cases n <;> cases u <;> cases h
def mgB (K : PySem.W.Frag) (x : Str) (d : D) : Bool := match PySem.W.nsIn K mainGlobals x with
  | some (some u) => valB K 9 d u
  | _ => false
def entsB (K : PySem.W.Frag) : List DictEntry → List (Str × D) → Bool
  | [], [] => true
  | ⟨_, .str k _, u⟩ :: es, (x, d) :: kvs => decide (k = x) && (valB K 9 d u && entsB K es kvs)
  | _, _ => false
def dicB (K : PySem.W.Frag) (x : Str) (kvs : List (Str × D)) : Bool := match PySem.W.nsIn K mainGlobals x with
  | some (some (.ref a)) => (match K.lookup a with
    | some ⟨_, _, .dict es _, _⟩ => entsB K es.toList kvs
    | _ => false)
  | _ => false
theorem ents_ok {G : Gm} {z : Str} : ∀ (es : List DictEntry) (kvs : List (Str × D)), entsB G.K es kvs = true →
    (es.any (·.refKey)) = false ∧ ((kvs.lookup z = none ∧ es.find? (·.key.isStr z) = none) ∨ ∃ d e v, kvs.lookup z = some d ∧ es.find? (·.key.isStr z) = some e ∧ RelV v e.val ∧ ∀ m H, VD G m H v d)
  | [], [], _ => ⟨rfl, .inl ⟨rfl, rfl⟩⟩
  | [], _ :: _, h => nomatch h
  | e :: es, [], h => by
    obtain ⟨h1, k, u⟩ := e
    cases k <;> cases h
  | ⟨hh, k, u⟩ :: es, (x, d) :: kvs, h => by
    cases k with
    | str y t =>
      have h' : (decide (y = x) && (valB G.K 9 d u && entsB G.K es kvs)) = true := h
      simp only [Bool.and_eq_true, decide_eq_true_eq] at h'
      obtain ⟨rfl, h2, h3⟩ := h'
      obtain ⟨g1, g2⟩ := ents_ok (z := z) es kvs h3
      obtain ⟨v, r, q⟩ := valB_ok 9 d u h2
      refine ⟨by rw [List.any_cons, g1]; rfl, ?_⟩
      by_cases c : z = y
      · subst c
        refine .inr ⟨d, ⟨hh, .str z t, u⟩, v, by simp [List.lookup_cons], ?_, r, q⟩
        rw [List.find?_cons_of_pos]
        show (Value.str z t).isStr z = true
        simp [Value.isStr]
      · have c1 : (z == y) = false := by simpa using c
        have e1 : ((y, d) :: kvs).lookup z = kvs.lookup z := by rw [List.lookup_cons, c1]
        have e2 : ((⟨hh, .str y t, u⟩ : DictEntry) :: es).find? (·.key.isStr z) = es.find? (·.key.isStr z) := by
          rw [List.find?_cons_of_neg]
          show ¬ (Value.str y t).isStr z = true
          simp [Value.isStr, Ne.symm c]
        rw [e1, e2]
        exact g2
    | _ => cases h
def exOf (T : TD) (K : PySem.W.Frag) : Bool := (T.con.all fun e => mgB K e.1 e.2) && T.dic.all fun e => dicB K e.1 e.2
def tsOf (T : TD) : List He.Tab := T.dic.map fun e => ((fun K => He.ga K e.1), e.2.map (·.1))
theorem lookup_mem {α : Type} {x : Str} {v : α} : ∀ {l : List (Str × α)}, l.lookup x = some v → (x, v) ∈ l
  | [], h => by simp at h
  | (y, u) :: r, h => by
    rw [List.lookup_cons] at h
    split at h
    · rename_i e
      cases h
      rw [beq_iff_eq.mp e]
      exact List.mem_cons_self
    · exact List.mem_cons_of_mem _ (lookup_mem h)
/-- a def is called by its parameters' places -/
def BindOk (d : Df) : Prop := ∀ (kV doc pm : Value) (an : Option Addr) (cdv ct : Value) (us : List Value), us.length = d.ps.length → bindArgs (PySem.W.fnOf d.x d.qual d.params d.body d.scope .none kV doc pm an cdv ct) ⟨us, []⟩ = pure (d.ps.zip us)
theorem lookup_idx {α : Type} {x : Str} {v : α} {l : List (Str × α)} (h : l.lookup x = some v) : ∃ i : Nat, l[i]? = some (x, v) := by
  obtain ⟨i, hi, e⟩ := List.mem_iff_getElem.mp (lookup_mem h)
  exact ⟨i, by rw [List.getElem?_eq_getElem hi, e]⟩
theorem txt_of {P : Program} {w : World} {K : PySem.W.Frag} {T : TD} {dfs : List Df} {fds : List Fd} {h : Heap} {mg : Str → Option Value} (cx : He.SaysX (faOf T) (dfs.map dOf) (tsOf T) [] (exOf T) w h K) (X : K.In h) (G : h.Ns mainGlobals mg) (ht : tdC T dfs = true) (hb : ∀ d ∈ dfs, BindOk d) : TxtOk P w K mg (gmOf P w K T dfs) T (mkTb fds T.cl) dfs := by
  have c := cx.t.d
  unfold tdC at ht
  rw [Bool.and_eq_true, Bool.and_eq_true] at ht
  obtain ⟨ht1, ht2, ht3⟩ := ht
  have hex := cx.more
  unfold exOf at hex
  rw [Bool.and_eq_true] at hex
  have faK : ∀ (k : Nat) (d : Df), dfs[k]? = some d → (gmOf P w K T dfs).fa k = He.fAd K d.at_ := fun k d hk => by
    show (match dfs[k]? with | some d => He.fAd K d.at_ | none => 0) = _
    rw [hk]
  have caK : ∀ (k : Nat) (d : CD), T.cl[k]? = some d → (gmOf P w K T dfs).ca k = He.ga K d.name := fun k d hk => by
    show (match T.cl[k]? with | some d => He.ga K d.name | none => 0) = _
    rw [hk]
  have fact : ∀ f ∈ faOf T, f.ok K = true := fun f hf => c.facts hf
  have factC : ∀ (k : Nat) (d : CD), T.cl[k]? = some d → ∀ f ∈ faC d, f.ok K = true := fun k d hk f hf => fact f (List.mem_append_right _ (List.mem_flatMap.mpr ⟨d, List.mem_of_getElem? hk, hf⟩))
  refine ⟨rfl, rfl, rfl, fun k d hk => ?_, fun x k dfl hx => ?_, fun x hx => ?_, fun x d hx => ?_, fun x k hx => ?_, fun k j hj => ?_, fun mn k j hj => ?_, fun f k hf => ?_, fun x kvs hx => ?_⟩
  · have e : (dfs.map dOf)[k]? = some (dOf d) := by rw [List.getElem?_map, hk]; rfl
    obtain ⟨fd, F⟩ := c.def_ k e
    have F' : FunD K d.x d.qual d.params d.body d.scope [] [] ((gmOf P w K T dfs).fa k) fd := by rw [faK k d hk]; exact F
    exact ⟨fd, F', F'.bindsN (hb d (List.mem_of_getElem? hk))⟩
  · have hm := lookup_mem hx
    have h1 := List.all_eq_true.mp ht1 _ hm
    simp only at h1
    split at h1
    · rename_i d hk
      rw [Bool.and_eq_true, decide_eq_true_eq] at h1
      refine ⟨?_, by simpa using h1.2, (List.getElem?_eq_some_iff.mp hk).1⟩
      rw [He.glo_ok X G (fact (.glo x) (List.mem_append_left _ (List.mem_append_left _ (List.mem_map.mpr ⟨_, hm, rfl⟩)))), faK k d hk, h1.1]
      rfl
    · cases h1
  · have hm : x ∈ T.free := by simpa using hx
    exact He.free_ok X G (fact (.free x) (List.mem_append_left _ (List.mem_append_right _ (List.mem_map.mpr ⟨_, hm, rfl⟩))))
  · have h1 := List.all_eq_true.mp hex.1 _ (lookup_mem hx)
    have h2 : mgB K x d = true := h1
    unfold mgB at h2
    split at h2
    · rename_i u e
      obtain ⟨v, r, q⟩ := valB_ok (G := gmOf P w K T dfs) 9 d u h2
      exact ⟨u, v, PySem.W.mg_of X G e, r, q⟩
    · cases h2
  · have h1 := List.all_eq_true.mp ht2 _ (lookup_mem hx)
    simp only at h1
    split at h1
    · rename_i d hk
      rw [decide_eq_true_eq] at h1
      rw [caK k d hk, h1]
      exact He.glo_ok X G (by rw [← h1]; exact factC k d hk (.glo d.name) (by simp [faC]))
    · cases h1
  · have hj' : (T.cl[k]?).bind (·.ini) = some j := hj
    obtain ⟨d, hk, hi⟩ := Option.bind_eq_some_iff.mp hj'
    have h1 := List.all_eq_true.mp ht3 d (List.mem_of_getElem? hk)
    rw [Bool.and_eq_true] at h1
    have h2 := h1.1
    rw [hi] at h2
    simp only at h2
    split at h2
    · rename_i e he
      rw [decide_eq_true_eq] at h2
      refine ⟨?_, (List.getElem?_eq_some_iff.mp he).1⟩
      have := He.mkr_ok (factC k d hk (.mkr d.name) (by simp [faC, hi]))
      rw [caK k d hk, faK j e he, h2]
      exact this
    · cases h2
  · have hj' : (T.cl[k]?).bind (fun d => d.mths.lookup mn) = some j := hj
    obtain ⟨d, hk, hi⟩ := Option.bind_eq_some_iff.mp hj'
    have h1 := List.all_eq_true.mp ht3 d (List.mem_of_getElem? hk)
    rw [Bool.and_eq_true] at h1
    have h2 := List.all_eq_true.mp h1.2 _ (lookup_mem hi)
    simp only at h2
    split at h2
    · rename_i e he
      rw [decide_eq_true_eq] at h2
      refine ⟨?_, ?_, (List.getElem?_eq_some_iff.mp he).1⟩
      · rw [caK k d hk]
        exact He.cls_ok (factC k d hk (.cls d.name) (by simp [faC]))
      · rw [caK k d hk, faK j e he, h2]
        exact He.meth_ok (factC k d hk (.meth d.name mn) (List.mem_append_right _ (List.mem_map.mpr ⟨_, lookup_mem hi, rfl⟩)))
    · cases h2
  · have hf' : (match T.cl[k]? with
      | some d => d.flds.contains f
      | none => false) = true := hf
    split at hf'
    · rename_i d hk
      rw [caK k d hk]
      refine ⟨He.cls_ok (factC k d hk (.cls d.name) (by simp [faC])), He.noat_ok (factC k d hk (.noat d.name f) (List.mem_append_left _ (List.mem_append_right _ (List.mem_map.mpr ⟨f, by simpa using hf', rfl⟩))))⟩
    · cases hf'
  · obtain ⟨i, hi⟩ := lookup_idx hx
    have h1 := List.all_eq_true.mp hex.2 _ (lookup_mem hx)
    have h2 : dicB K x kvs = true := h1
    unfold dicB at h2
    split at h2
    · rename_i a ea
      split at h2
      · rename_i oc od es n sl el
        have hga : He.ga K x = a := by
          unfold He.ga
          rw [ea]
        have ht : (tsOf T)[i]? = some ((fun K => He.ga K x), kvs.map (·.1)) := by
          unfold tsOf
          rw [List.getElem?_map, hi]; rfl
        obtain ⟨es', n', D⟩ := cx.t.tab i ht
        have D' : KDict K w a es' n' := by rw [← hga]; exact D
        refine ⟨a, PySem.W.mg_of X G ea, ⟨es', n', D'⟩, fun z => ?_⟩
        obtain ⟨g1, g2⟩ := ents_ok (G := gmOf P w K T dfs) (z := z) es.toList kvs h2
        unfold PySem.W.nsIn
        rw [el]
        rcases g2 with ⟨g2, g3⟩ | ⟨d, e, v, g2, g3, g4, g5⟩
        · refine .inl ⟨g2, ?_⟩
          simp only [g3, g1]
          rfl
        · refine .inr ⟨d, e.val, v, g2, ?_, g4, g5⟩
          simp only [g3]
      · cases h2
    · cases h2
theorem no_cx {P : Program} {w : World} (H : Hp) (s : Shared) (e : Value) (s' : Shared) : L2N.CX P w [] H s (fun _ _ _ => False) e s' → False := fun x => by
  obtain ⟨_, _, _, _, _, _, _, _, _, _, _, _, z⟩ := x
  exact z
/-- the facts as a law's end takes them -/
abbrev LawF (P : Program) (w : World) (mg : Str → Option Value) (K : PySem.W.Frag) (k n : Nat) (f : Addr) (x : Str) (fd : FuncData) (sp : Sp) : Prop :=
  (∀ (s : Shared) (u : Value), BindsTo s fd ⟨[u], []⟩ [(x, u)]) ∧
  (∀ (H : Hp) (a : Addr) (ns : List Int), ns.length ≤ n → (∀ z ∈ ns, Builtin.Int.intBits z ≤ 1048576) → Only H → SqL K H a (ns.map V.int) → sp [.ref a] H (fun v _ => v = .bl true) fun _ _ _ => False) ∧
  ∀ base : Heap, K.In base → base.Ns mainGlobals mg → FnOk P w K mg base (L2N.CX P w) k f fd [x] sp
/-- the end: the facts of the law's def -/
theorem law_facts {P : Program} {w : World} {K : PySem.W.Frag} {T : TD} {dfs : List Df} {h : Heap} {mg : Str → Option Value} {f : Addr} {Tb : Tb} {kl n : Nat} {d : Df} {x : Str} (c : He.SaysX (faOf T) (dfs.map dOf) (tsOf T) [] (exOf T) w h K) (X : K.In h) (G : h.Ns mainGlobals mg) (ht : tdC T dfs = true) (hb : ∀ d ∈ dfs, BindOk d)
    (hd : DfsOk T Tb dfs) (htb : Tb = mkTb (dfs.map Df.fd) T.cl) (hl : dfs[kl]? = some d) (hx : d.ps = [x]) (hn : T.defs.lookup d.x = some (kl, [])) (hfa : mg d.x = some (.ref f))
    (hr : ∀ ns : List Int, ns.length ≤ 63 → (∀ z ∈ ns, Builtin.Int.intBits z ≤ 1048576) → ∃ h', (Tb.fns n).call kl [.scr (ns.map D.int)] [] = .ok (.bl true) h') :
    ∃ (fd : FuncData) (sp : Sp), LawF P w mg K (2 * n) 63 f x fd sp := by
  have tx := txt_of (P := P) (w := w) (mg := mg) (fds := dfs.map Df.fd) c X G ht hb
  rw [← htb] at tx
  obtain ⟨e, _, _⟩ := tx.nms d.x kl [] hn
  rw [hfa] at e
  have ef : f = (gmOf P w K T dfs).fa kl := by cases e; rfl
  obtain ⟨fd, h1, h2⟩ := tx.fds kl d hl
  refine ⟨fd, spF (gmOf P w K T dfs) (Tb.fns n) kl, fun s u => ?_, fun H a ns hns hbi ho hs => ?_, fun base _ _ => ?_⟩
  · have := h1.bindsA (ps := d.ps) (hb d (List.mem_of_getElem? hl)) s [u] (by rw [hx]; rfl)
    rw [hx] at this
    exact this
  · obtain ⟨h', e⟩ := hr ns hns hbi
    exact law_sp (G := gmOf P w K T dfs) ho hs e
  · obtain ⟨fd', F1, F2, F3⟩ := txt_ok (P := P) (w := w) (base := base) (mg := mg) tx hd (by rw [htb]; rfl) n kl d hl
    have : fd' = fd := by
      obtain ⟨oc, od, dV, kV, doc, pm, an, cdv, ct, osl, e1, lk, _⟩ := F2.ex
      obtain ⟨oc', od', dV', kV', doc', pm', an', cdv', ct', osl', e2, lk', _⟩ := h1.ex
      rw [lk] at lk'
      cases lk'
      rfl
    subst this
    rw [ef, ← hx]
    exact F1
theorem law_walk {l : PySem.W.OpenLaw} {n k : Nat} {q : Program} {loose : List Str} {XP : (Str → Option Value) → Heap → Prop} {YP : World → Heap → Prop} {d : DefRec} {x : Str}
    (h1 : l.most = some n) (h2 : n ≤ sizeLine) (h3 : d.params.defaults = []) (room : Room k callerA)
    (facts : ∀ (w : World) (mg : Str → Option Value) (f : Addr) (h : Heap), YP w h → h.Ns mainGlobals mg → mg d.name = some (.ref f) → ∃ (K : PySem.W.Frag) (fd : FuncData) (sp : Sp), K.In h ∧ LawF l.prog w mg K k n f x fd sp) :
    PySem.W.WalkO q loose XP YP l.row.toRowW d [] (fun f vs => PySem.call f vs) :=
  Att.attach_callB h1 h3 fun w t0 t1 mg mb f o pm cd doc a vs ns Gr Y _ _ _ em eo is len bits eg => by
    obtain ⟨K, fd, sp, KX, c1, c2, c3⟩ := facts w mg f _ Y Gr.T.g em
    exact law_call KX Gr.T.g Gr.T.b Gr.T.builtins Gr.T.nolimit eg eo is (Nat.le_trans len h2) room c3 c1 (fun H hO hS => c2 H a ns len bits hO hS) fun H e s' => no_cx H t1 e s'
end Mp

set_option Elab.async false
set_option linter.all false
set_option maxRecDepth 100000
set_option maxHeartbeats 4000000
namespace Q41
open PySem PySem.Spec PyProof.Rows L2 Mp
abbrev prg : Program := PySem.Challenge.pw_partproof_k41_hits_misses_needs
def top (i : Nat) : Stmt := prg.main.body.getD i (.Pass ⟨0, 0, 0, 0⟩)
def sub (s : Stmt) (j : Nat) : Stmt := match s with | .ClassDef _ _ _ body _ _ _ _ _ _ _ => body.getD j (.Pass ⟨0, 0, 0, 0⟩) | s => s
abbrev T : TD := ⟨("_wall", (0, [])) :: ("is_read_of_put", (1, [])) :: ("hit", (2, [])) :: ("miss", (3, [])) :: ("need", (4, [])) :: ("is_whole", (5, [])) :: ("common", (6, [])) :: ("is_fraction", (7, [])) :: ("is_name", (8, [])) :: ("is_stretch", (9, [])) :: ("is_kind", (10, [])) :: ("is_function", (11, [])) :: ("checked_list", (12, [])) :: ("values_together", (13, [])) :: ("may_hold", (24, [])) :: ("is_too_deep", (25, [])) :: ("check_kind", (26, [])) :: ("kind_of_call", (27, [])) :: ("kind_of_unknown", (28, [])) :: ("kind_of", (29, [])) :: ("kind_within", (30, [])) :: ("check_atom", (31, [])) :: ("check_statement", (32, [])) :: ("check_within", (33, [])) :: ("_law_cell_at", (34, [])) :: ("_law_stream", (35, [])) :: ("_law_draw", (36, [])) :: ("_law_fraction", (37, [])) :: ("_law_term", (38, [])) :: ("_law_array", (39, [])) :: ("_law_read", (40, [])) :: ("_law_is", (41, [])) :: ("law", (42, [])) :: [], ["isinstance", "int", "bool", "abs", "tuple", "len", "str", "all", "list", "range", "zip"], [("MOST_LETTERS", (.int 8)), ("LETTERS", (.str "abcdefghijklmnopqrstuvwxyz")), ("MOST_STRETCH", (.int 60)), ("MOST_KINDS", (.int 3)), ("MOST_VALUES", (.int 3600)), ("DEEPEST", (.int 12)), ("ATOMS", (.tup [(.str "atmost"), (.str "below"), (.str "same")]))], [("Names", 0)], cl, [("LENGTHS", [("number", (.int 2)), ("unknown", (.int 2)), ("weigh", (.int 3)), ("plus", (.int 2)), ("call", (.int 3)), ("read", (.int 3)), ("put", (.int 4))])]⟩
abbrev N0 : List Str := ["k"]
abbrev P0 : List Str := ["k"]
abbrev D0 : Df := ⟨("_wall", none), "_wall", "_wall", defArgs (top 0), defBody (top 0), defScope (top 0), N0, P0, b0⟩
abbrev N1 : List Str := ["term"]
abbrev P1 : List Str := ["term"]
abbrev D1 : Df := ⟨("is_read_of_put", none), "is_read_of_put", "is_read_of_put", defArgs (top 2), defBody (top 2), defScope (top 2), N1, P1, b1⟩
abbrev N2 : List Str := ["read"]
abbrev P2 : List Str := ["read"]
abbrev D2 : Df := ⟨("hit", none), "hit", "hit", defArgs (top 3), defBody (top 3), defScope (top 3), N2, P2, b2⟩
abbrev N3 : List Str := ["read"]
abbrev P3 : List Str := ["read"]
abbrev D3 : Df := ⟨("miss", none), "miss", "miss", defArgs (top 4), defBody (top 4), defScope (top 4), N3, P3, b3⟩
abbrev N4 : List Str := ["read"]
abbrev P4 : List Str := ["read"]
abbrev D4 : Df := ⟨("need", none), "need", "need", defArgs (top 5), defBody (top 5), defScope (top 5), N4, P4, b4⟩
abbrev N5 : List Str := ["thing"]
abbrev P5 : List Str := ["thing"]
abbrev D5 : Df := ⟨("is_whole", none), "is_whole", "is_whole", defArgs (top 12), defBody (top 12), defScope (top 12), N5, P5, b5⟩
abbrev N6 : List Str := ["one", "other"]
abbrev P6 : List Str := ["one", "other"]
abbrev D6 : Df := ⟨("common", none), "common", "common", defArgs (top 13), defBody (top 13), defScope (top 13), N6, P6, b6⟩
abbrev N7 : List Str := ["thing", "top", "bottom"]
abbrev P7 : List Str := ["thing"]
abbrev D7 : Df := ⟨("is_fraction", none), "is_fraction", "is_fraction", defArgs (top 14), defBody (top 14), defScope (top 14), N7, P7, b7⟩
abbrev N8 : List Str := ["thing", "sign"]
abbrev P8 : List Str := ["thing"]
abbrev D8 : Df := ⟨("is_name", none), "is_name", "is_name", defArgs (top 21), defBody (top 21), defScope (top 21), N8, P8, b8⟩
abbrev N9 : List Str := ["thing"]
abbrev P9 : List Str := ["thing"]
abbrev D9 : Df := ⟨("is_stretch", none), "is_stretch", "is_stretch", defArgs (top 22), defBody (top 22), defScope (top 22), N9, P9, b9⟩
abbrev N10 : List Str := ["thing"]
abbrev P10 : List Str := ["thing"]
abbrev D10 : Df := ⟨("is_kind", none), "is_kind", "is_kind", defArgs (top 23), defBody (top 23), defScope (top 23), N10, P10, b10⟩
abbrev N11 : List Str := ["thing", "kinds", "kind"]
abbrev P11 : List Str := ["thing"]
abbrev D11 : Df := ⟨("is_function", none), "is_function", "is_function", defArgs (top 24), defBody (top 24), defScope (top 24), N11, P11, b11⟩
abbrev N12 : List Str := ["thing", "fits", "one"]
abbrev P12 : List Str := ["thing", "fits"]
abbrev D12 : Df := ⟨("checked_list", none), "checked_list", "checked_list", defArgs (top 25), defBody (top 25), defScope (top 25), N12, P12, b12⟩
abbrev N13 : List Str := ["stretches", "found", "name", "low", "high"]
abbrev P13 : List Str := ["stretches"]
abbrev D13 : Df := ⟨("values_together", none), "values_together", "values_together", defArgs (top 26), defBody (top 26), defScope (top 26), N13, P13, b13⟩
abbrev N14 : List Str := ["self", "numbers", "wholes", "things", "functions", "arrays", "name", "one"]
abbrev P14 : List Str := ["self", "numbers", "wholes", "things", "functions", "arrays"]
abbrev D14 : Df := ⟨("Names", some "__init__"), "__init__", "Names.__init__", defArgs (sub (top 27) 0), defBody (sub (top 27) 0), defScope (sub (top 27) 0), N14, P14, b14⟩
abbrev N15 : List Str := ["self", "pairs", "name", "kind"]
abbrev P15 : List Str := ["self", "pairs"]
abbrev D15 : Df := ⟨("Names", some "note"), "note", "Names.note", defArgs (sub (top 27) 1), defBody (sub (top 27) 1), defScope (sub (top 27) 1), N15, P15, b15⟩
abbrev N16 : List Str := ["self"]
abbrev P16 : List Str := ["self"]
abbrev D16 : Df := ⟨("Names", some "all_numbers"), "all_numbers", "Names.all_numbers", defArgs (sub (top 27) 2), defBody (sub (top 27) 2), defScope (sub (top 27) 2), N16, P16, b16⟩
abbrev N17 : List Str := ["self"]
abbrev P17 : List Str := ["self"]
abbrev D17 : Df := ⟨("Names", some "all_wholes"), "all_wholes", "Names.all_wholes", defArgs (sub (top 27) 3), defBody (sub (top 27) 3), defScope (sub (top 27) 3), N17, P17, b17⟩
abbrev N18 : List Str := ["self"]
abbrev P18 : List Str := ["self"]
abbrev D18 : Df := ⟨("Names", some "all_things"), "all_things", "Names.all_things", defArgs (sub (top 27) 4), defBody (sub (top 27) 4), defScope (sub (top 27) 4), N18, P18, b18⟩
abbrev N19 : List Str := ["self"]
abbrev P19 : List Str := ["self"]
abbrev D19 : Df := ⟨("Names", some "all_functions"), "all_functions", "Names.all_functions", defArgs (sub (top 27) 5), defBody (sub (top 27) 5), defScope (sub (top 27) 5), N19, P19, b19⟩
abbrev N20 : List Str := ["self"]
abbrev P20 : List Str := ["self"]
abbrev D20 : Df := ⟨("Names", some "all_arrays"), "all_arrays", "Names.all_arrays", defArgs (sub (top 27) 6), defBody (sub (top 27) 6), defScope (sub (top 27) 6), N20, P20, b20⟩
abbrev N21 : List Str := ["self", "name", "found"]
abbrev P21 : List Str := ["self", "name"]
abbrev D21 : Df := ⟨("Names", some "kind"), "kind", "Names.kind", defArgs (sub (top 27) 7), defBody (sub (top 27) 7), defScope (sub (top 27) 7), N21, P21, b21⟩
abbrev N22 : List Str := ["self", "name", "one", "low", "high"]
abbrev P22 : List Str := ["self", "name"]
abbrev D22 : Df := ⟨("Names", some "bounds"), "bounds", "Names.bounds", defArgs (sub (top 27) 8), defBody (sub (top 27) 8), defScope (sub (top 27) 8), N22, P22, b22⟩
abbrev N23 : List Str := ["self", "name", "one", "kinds", "kind"]
abbrev P23 : List Str := ["self", "name"]
abbrev D23 : Df := ⟨("Names", some "function"), "function", "Names.function", defArgs (sub (top 27) 9), defBody (sub (top 27) 9), defScope (sub (top 27) 9), N23, P23, b23⟩
abbrev N24 : List Str := ["thing", "inner", "one"]
abbrev P24 : List Str := ["thing"]
abbrev D24 : Df := ⟨("may_hold", none), "may_hold", "may_hold", defArgs (top 31), defBody (top 31), defScope (top 31), N24, P24, b24⟩
abbrev N25 : List Str := ["thing", "layer", "depth", "after", "one"]
abbrev P25 : List Str := ["thing"]
abbrev D25 : Df := ⟨("is_too_deep", none), "is_too_deep", "is_too_deep", defArgs (top 32), defBody (top 32), defScope (top 32), N25, P25, b25⟩
abbrev N26 : List Str := ["names", "term", "kind"]
abbrev P26 : List Str := ["names", "term", "kind"]
abbrev D26 : Df := ⟨("check_kind", none), "check_kind", "check_kind", defArgs (top 33), defBody (top 33), defScope (top 33), N26, P26, b26⟩
abbrev N27 : List Str := ["names", "name", "terms", "known", "term", "kind"]
abbrev P27 : List Str := ["names", "name", "terms"]
abbrev D27 : Df := ⟨("kind_of_call", none), "kind_of_call", "kind_of_call", defArgs (top 34), defBody (top 34), defScope (top 34), N27, P27, b27⟩
abbrev N28 : List Str := ["names", "name", "kind"]
abbrev P28 : List Str := ["names", "name"]
abbrev D28 : Df := ⟨("kind_of_unknown", none), "kind_of_unknown", "kind_of_unknown", defArgs (top 35), defBody (top 35), defScope (top 35), N28, P28, b28⟩
abbrev N29 : List Str := ["names", "term"]
abbrev P29 : List Str := ["names", "term"]
abbrev D29 : Df := ⟨("kind_of", none), "kind_of", "kind_of", defArgs (top 36), defBody (top 36), defScope (top 36), N29, P29, b29⟩
abbrev N30 : List Str := ["names", "term", "word", "one"]
abbrev P30 : List Str := ["names", "term"]
abbrev D30 : Df := ⟨("kind_within", none), "kind_within", "kind_within", defArgs (top 37), defBody (top 37), defScope (top 37), N30, P30, b30⟩
abbrev N31 : List Str := ["names", "atom", "kinds"]
abbrev P31 : List Str := ["names", "atom"]
abbrev D31 : Df := ⟨("check_atom", none), "check_atom", "check_atom", defArgs (top 40), defBody (top 40), defScope (top 40), N31, P31, b31⟩
abbrev N32 : List Str := ["names", "statement"]
abbrev P32 : List Str := ["names", "statement"]
abbrev D32 : Df := ⟨("check_statement", none), "check_statement", "check_statement", defArgs (top 41), defBody (top 41), defScope (top 41), N32, P32, b32⟩
abbrev N33 : List Str := ["names", "statement", "word", "one"]
abbrev P33 : List Str := ["names", "statement"]
abbrev D33 : Df := ⟨("check_within", none), "check_within", "check_within", defArgs (top 42), defBody (top 42), defScope (top 42), N33, P33, b33⟩
abbrev N34 : List Str := ["_law_script", "_law_k"]
abbrev P34 : List Str := ["_law_script", "_law_k"]
abbrev D34 : Df := ⟨("_law_cell_at", none), "_law_cell_at", "_law_cell_at", defArgs (top 44), defBody (top 44), defScope (top 44), N34, P34, b34⟩
abbrev N35 : List Str := ["_law_cell", "_law_many", "_law_found", "_law_left", "_law_number", "_law_step"]
abbrev P35 : List Str := ["_law_cell", "_law_many"]
abbrev D35 : Df := ⟨("_law_stream", none), "_law_stream", "_law_stream", defArgs (top 45), defBody (top 45), defScope (top 45), N35, P35, b35⟩
abbrev N36 : List Str := ["_law_xs"]
abbrev P36 : List Str := ["_law_xs"]
abbrev D36 : Df := ⟨("_law_draw", none), "_law_draw", "_law_draw", defArgs (top 46), defBody (top 46), defScope (top 46), N36, P36, b36⟩
abbrev N37 : List Str := ["_law_number", "_law_top", "_law_bottom"]
abbrev P37 : List Str := ["_law_number"]
abbrev D37 : Df := ⟨("_law_fraction", none), "_law_fraction", "_law_fraction", defArgs (top 47), defBody (top 47), defScope (top 47), N37, P37, b37⟩
abbrev N38 : List Str := ["_law_xs", "_law_deep", "_law_number", "_law_way", "_law_array_here", "_law_one"]
abbrev P38 : List Str := ["_law_xs", "_law_deep"]
abbrev D38 : Df := ⟨("_law_term", none), "_law_term", "_law_term", defArgs (top 48), defBody (top 48), defScope (top 48), N38, P38, b38⟩
abbrev N39 : List Str := ["_law_xs", "_law_deep", "_law_number", "_law_inner", "_law_place"]
abbrev P39 : List Str := ["_law_xs", "_law_deep"]
abbrev D39 : Df := ⟨("_law_array", none), "_law_array", "_law_array", defArgs (top 49), defBody (top 49), defScope (top 49), N39, P39, b39⟩
abbrev N40 : List Str := ["_law_cell", "_law_xs", "_law_array_here", "_law_k", "_law_place"]
abbrev P40 : List Str := ["_law_cell"]
abbrev D40 : Df := ⟨("_law_read", none), "_law_read", "_law_read", defArgs (top 50), defBody (top 50), defScope (top 50), N40, P40, b40⟩
abbrev N41 : List Str := ["_law_names", "_law_term_here", "_law_turn"]
abbrev P41 : List Str := ["_law_names", "_law_term_here"]
abbrev D41 : Df := ⟨("_law_is", none), "_law_is", "_law_is", defArgs (top 51), defBody (top 51), defScope (top 51), N41, P41, b41⟩
abbrev N42 : List Str := ["_law_script", "_law_names", "_law_cell", "_law_term_here", "_law_puts", "_law_k", "_law_other"]
abbrev P42 : List Str := ["_law_script"]
abbrev D42 : Df := ⟨("law", none), "law", "law", defArgs (top 52), defBody (top 52), defScope (top 52), N42, P42, b42⟩
abbrev dfs : List Df := [D0, D1, D2, D3, D4, D5, D6, D7, D8, D9, D10, D11, D12, D13, D14, D15, D16, D17, D18, D19, D20, D21, D22, D23, D24, D25, D26, D27, D28, D29, D30, D31, D32, D33, D34, D35, D36, D37, D38, D39, D40, D41, D42]
section
variable {G : Gm} {W : WX} {F : Fns} {X : Cx}
theorem w0 (hini : F.ini = tb.ini) (ok : XOk T G W F N0 (defScope (top 0)) X) (pa : PassesOwn (model X.prog X.w) X.A X.env X.xe) (fnT : ∀ x, X.fn x = true) : PSs X (defBody (top 0)) (tSs G W F b0) :=
  (rss_cons (rs_whl pa (h_val ok k_bl) (rss_cons rs_pass
  rss_nil))
  rss_nil)
theorem w1 (hini : F.ini = tb.ini) (ok : XOk T G W F N1 (defScope (top 2)) X) (pa : PassesOwn (model X.prog X.w) X.A X.env X.xe) (fnT : ∀ x, X.fn x = true) : PSs X (defBody (top 2)) (tSs G W F b1) :=
  (rss_cons (rs_ret (k_and ok (k_eq ok (k_ix ok (k_var 0 ok) k_int) k_str) (k_and1 (k_eq ok (k_ix ok (k_ix ok (k_var 0 ok) k_int) k_int) k_str))))
  rss_nil)
theorem w2 (hini : F.ini = tb.ini) (ok : XOk T G W F N2 (defScope (top 3)) X) (pa : PassesOwn (model X.prog X.w) X.A X.env X.xe) (fnT : ∀ x, X.fn x = true) : PSs X (defBody (top 3)) (tSs G W F b2) :=
  (rss_cons (rs_ret (k_ix ok (k_ix ok (k_var 0 ok) k_int) k_int))
  rss_nil)
theorem w3 (hini : F.ini = tb.ini) (ok : XOk T G W F N3 (defScope (top 4)) X) (pa : PassesOwn (model X.prog X.w) X.A X.env X.xe) (fnT : ∀ x, X.fn x = true) : PSs X (defBody (top 4)) (tSs G W F b3) :=
  (rss_cons (rs_ret (r_tup (k_cons k_str (k_cons (k_ix ok (k_ix ok (k_var 0 ok) k_int) k_int) (k_cons (k_ix ok (k_var 0 ok) k_int) ra_nil)))))
  rss_nil)
theorem w4 (hini : F.ini = tb.ini) (ok : XOk T G W F N4 (defScope (top 5)) X) (pa : PassesOwn (model X.prog X.w) X.A X.env X.xe) (fnT : ∀ x, X.fn x = true) : PSs X (defBody (top 5)) (tSs G W F b4) :=
  (rss_cons (rs_ret (r_tup (k_cons k_str (k_cons (k_ix ok (k_var 0 ok) k_int) (k_cons (k_ix ok (k_ix ok (k_var 0 ok) k_int) k_int) ra_nil)))))
  rss_nil)
theorem w5 (hini : F.ini = tb.ini) (ok : XOk T G W F N5 (defScope (top 12)) X) (pa : PassesOwn (model X.prog X.w) X.A X.env X.xe) (fnT : ∀ x, X.fn x = true) : PSs X (defBody (top 12)) (tSs G W F b5) :=
  (rss_cons (rs_ret (k_and ok (k_isi .int ok rfl rfl (k_var 0 ok)) (k_and1 (k_not ok (k_isi .bool ok rfl rfl (k_var 0 ok))))))
  rss_nil)
theorem w6 (hini : F.ini = tb.ini) (ok : XOk T G W F N6 (defScope (top 13)) X) (pa : PassesOwn (model X.prog X.w) X.A X.env X.xe) (fnT : ∀ x, X.fn x = true) : PSs X (defBody (top 13)) (tSs G W F b6) :=
  (rss_cons (rs_whl pa (h_ne ok (k_var 1 ok) k_int) (rss_cons (s_par 0 1 ok (k_var 1 ok) (k_mod ok (k_var 0 ok) (k_var 1 ok)))
  rss_nil))
  (rss_cons (rs_ret (k_blt abs_ok ok rfl (k_cons (k_var 0 ok) ra_nil)))
  rss_nil))
theorem w7 (hini : F.ini = tb.ini) (ok : XOk T G W F N7 (defScope (top 14)) X) (pa : PassesOwn (model X.prog X.w) X.A X.env X.xe) (fnT : ∀ x, X.fn x = true) : PSs X (defBody (top 14)) (tSs G W F b7) :=
  (rss_cons (rs_if (rt_or (rt_not (h_val ok (k_isi .tuple ok rfl rfl (k_var 0 ok)))) (h_or1 (h_ne ok (k_blt (len_ok ok.hK ok.hP ok.hw) ok rfl (k_cons (k_var 0 ok) ra_nil)) k_int))).pt (rss_cons (rs_ret k_bl)
  rss_nil) rss_nil)
  (rss_cons (s_asg (k_var 0 ok) (g_tup ok (gs_cons (g_name 1 ok) (gs_cons (g_name 2 ok) rgs_nil))))
  (rss_cons (rs_ret (k_and ok (k_call 5 [] 0 ok (k_cons (k_var 1 ok) ra_nil)) (k_and ok (k_call 5 [] 0 ok (k_cons (k_var 2 ok) ra_nil)) (k_and ok (k_gt ok (k_var 2 ok) k_int) (k_and1 (k_eq ok (k_call 6 [] 0 ok (k_cons (k_var 1 ok) (k_cons (k_var 2 ok) ra_nil))) k_int))))))
  rss_nil)))
theorem w8 (hini : F.ini = tb.ini) (ok : XOk T G W F N8 (defScope (top 21)) X) (pa : PassesOwn (model X.prog X.w) X.A X.env X.xe) (fnT : ∀ x, X.fn x = true) : PSs X (defBody (top 21)) (tSs G W F b8) :=
  (rss_cons (rs_if (rt_or (rt_not (h_val ok (k_isi .str ok rfl rfl (k_var 0 ok)))) (h_or1 (rt_not (rt_chain op_leq op_leq k_int (k_blt (len_ok ok.hK ok.hP ok.hw) ok rfl (k_cons (k_var 0 ok) ra_nil)) (k_con (.int 8) ok) rfl)))).pt (rss_cons (rs_ret k_bl)
  rss_nil) rss_nil)
  (rss_cons (rs_ret (k_blt (all_ok ok.hK ok.calm) ok rfl (k_cons (k_lc [("sign", 1)] ok (i_seq ok (k_var 0 ok)) (fun _ ok1 fn1 => (g_name 1 ok1)) (fun _ ok1 => rc_nil) (fun _ ok1 => (k_in ok1 (k_var 1 ok1) (k_con (.str "abcdefghijklmnopqrstuvwxyz") ok1)))) ra_nil)))
  rss_nil))
theorem w9 (hini : F.ini = tb.ini) (ok : XOk T G W F N9 (defScope (top 22)) X) (pa : PassesOwn (model X.prog X.w) X.A X.env X.xe) (fnT : ∀ x, X.fn x = true) : PSs X (defBody (top 22)) (tSs G W F b9) :=
  (rss_cons (rs_if (rt_or (rt_not (h_val ok (k_isi .tuple ok rfl rfl (k_var 0 ok)))) (rt_or (h_ne ok (k_blt (len_ok ok.hK ok.hP ok.hw) ok rfl (k_cons (k_var 0 ok) ra_nil)) k_int) (h_or1 (rt_not (h_val ok (k_call 8 [] 0 ok (k_cons (k_ix ok (k_var 0 ok) k_int) ra_nil))))))).pt (rss_cons (rs_ret k_bl)
  rss_nil) rss_nil)
  (rss_cons (rs_if (rt_or (rt_not (h_val ok (k_call 5 [] 0 ok (k_cons (k_ix ok (k_var 0 ok) k_int) ra_nil)))) (h_or1 (rt_not (h_val ok (k_call 5 [] 0 ok (k_cons (k_ix ok (k_var 0 ok) k_int) ra_nil)))))).pt (rss_cons (rs_ret k_bl)
  rss_nil) rss_nil)
  (rss_cons (rs_ret (r_chain op_leq op_leq (k_ix ok (k_var 0 ok) k_int) (k_ix ok (k_var 0 ok) k_int) (k_add ok (k_ix ok (k_var 0 ok) k_int) (k_con (.int 60) ok)) rfl))
  rss_nil)))
theorem w10 (hini : F.ini = tb.ini) (ok : XOk T G W F N10 (defScope (top 23)) X) (pa : PassesOwn (model X.prog X.w) X.A X.env X.xe) (fnT : ∀ x, X.fn x = true) : PSs X (defBody (top 23)) (tSs G W F b10) :=
  (rss_cons (rs_ret (k_and ok (k_isi .str ok rfl rfl (k_var 0 ok)) (k_and1 (k_in ok (k_var 0 ok) (r_tup (k_cons k_str (k_cons k_str ra_nil)))))))
  rss_nil)
theorem w11 (hini : F.ini = tb.ini) (ok : XOk T G W F N11 (defScope (top 24)) X) (pa : PassesOwn (model X.prog X.w) X.A X.env X.xe) (fnT : ∀ x, X.fn x = true) : PSs X (defBody (top 24)) (tSs G W F b11) :=
  (rss_cons (rs_if (rt_or (rt_not (h_val ok (k_isi .tuple ok rfl rfl (k_var 0 ok)))) (rt_or (h_ne ok (k_blt (len_ok ok.hK ok.hP ok.hw) ok rfl (k_cons (k_var 0 ok) ra_nil)) k_int) (rt_or (rt_not (h_val ok (k_call 8 [] 0 ok (k_cons (k_ix ok (k_var 0 ok) k_int) ra_nil)))) (h_or1 (rt_not (h_val ok (k_call 10 [] 0 ok (k_cons (k_ix ok (k_var 0 ok) k_int) ra_nil)))))))).pt (rss_cons (rs_ret k_bl)
  rss_nil) rss_nil)
  (rss_cons (s_set 1 ok (k_ix ok (k_var 0 ok) k_int))
  (rss_cons (rs_ret (k_and ok (k_isi .tuple ok rfl rfl (k_var 1 ok)) (k_and ok (r_chain op_leq op_leq k_int (k_blt (len_ok ok.hK ok.hP ok.hw) ok rfl (k_cons (k_var 1 ok) ra_nil)) (k_con (.int 3) ok) rfl) (k_and1 (k_blt (all_ok ok.hK ok.calm) ok rfl (k_cons (k_lc [("kind", 2)] ok (i_seq ok (k_var 1 ok)) (fun _ ok1 fn1 => (g_name 2 ok1)) (fun _ ok1 => rc_nil) (fun _ ok1 => (k_call 10 [] 0 ok1 (k_cons (k_var 2 ok1) ra_nil)))) ra_nil))))))
  rss_nil)))
theorem w12 (hini : F.ini = tb.ini) (ok : XOk T G W F N12 (defScope (top 25)) X) (pa : PassesOwn (model X.prog X.w) X.A X.env X.xe) (fnT : ∀ x, X.fn x = true) : PSs X (defBody (top 25)) (tSs G W F b12) :=
  (rss_cons (rs_if (rt_or (rt_not (h_val ok (k_isi .list ok rfl rfl (k_var 0 ok)))) (h_or1 (rt_not (h_val ok (k_blt (all_ok ok.hK ok.calm) ok rfl (k_cons (k_lc [("one", 2)] ok (i_seq ok (k_var 0 ok)) (fun _ ok1 fn1 => (g_name 2 ok1)) (fun _ ok1 => rc_nil) (fun _ ok1 => (k_callv 1 ok1 (k_cons (k_var 2 ok1) ra_nil)))) ra_nil)))))).pt (rss_cons rs_stk
  rss_nil) rss_nil)
  (rss_cons (rs_ret (k_bty (list_ok ok.hK) ok rfl (k_cons (k_var 0 ok) ra_nil)))
  rss_nil))
theorem w13 (hini : F.ini = tb.ini) (ok : XOk T G W F N13 (defScope (top 26)) X) (pa : PassesOwn (model X.prog X.w) X.A X.env X.xe) (fnT : ∀ x, X.fn x = true) : PSs X (defBody (top 26)) (tSs G W F b13) :=
  (rss_cons (s_set 1 ok k_int)
  (rss_cons (s_for pa ok (i_seq ok (k_var 0 ok)) (g_tup ok (gs_cons (g_name 2 ok) (gs_cons (g_name 3 ok) (gs_cons (g_name 4 ok) rgs_nil)))) (rss_cons (s_set 1 ok (k_mul ok (k_var 1 ok) (k_add ok (k_sub ok (k_var 4 ok) (k_var 3 ok)) k_int)))
  rss_nil))
  (rss_cons (rs_ret (k_var 1 ok))
  rss_nil)))
theorem w14 (hini : F.ini = tb.ini) (ok : XOk T G W F N14 (defScope (sub (top 27) 0)) X) (pa : PassesOwn (model X.prog X.w) X.A X.env X.xe) (fnT : ∀ x, X.fn x = true) : PSs X (defBody (sub (top 27) 0)) (tSs G W F b14) :=
  (rss_cons (s_sfd ok (k_var 0 ok) (k_call 12 [] 0 ok (k_cons (k_var 1 ok) (k_cons (k_fnv 8 [] ok) ra_nil))))
  (rss_cons (s_sfd ok (k_var 0 ok) (k_call 12 [] 0 ok (k_cons (k_var 2 ok) (k_cons (k_fnv 9 [] ok) ra_nil))))
  (rss_cons (rs_if (h_gt ok (k_call 13 [] 0 ok (k_cons (k_fld ok (k_var 0 ok)) ra_nil)) (k_con (.int 3600) ok)) (rss_cons rs_stk
  rss_nil) rss_nil)
  (rss_cons (s_sfd ok (k_var 0 ok) (k_call 12 [] 0 ok (k_cons (k_var 3 ok) (k_cons (k_fnv 8 [] ok) ra_nil))))
  (rss_cons (s_sfd ok (k_var 0 ok) (k_call 12 [] 0 ok (k_cons (k_var 4 ok) (k_cons (k_fnv 11 [] ok) ra_nil))))
  (rss_cons (s_sfd ok (k_var 0 ok) (k_call 12 [] 0 ok (k_cons (k_var 5 ok) (k_cons (k_fnv 8 [] ok) ra_nil))))
  (rss_cons (s_sfd ok (k_var 0 ok) r_dct0)
  (rss_cons (s_ex (k_umt ok (k_var 0 ok) (k_cons (k_lc [("name", 6)] ok (i_seq ok (k_fld ok (k_var 0 ok))) (fun _ ok1 fn1 => (g_name 6 ok1)) (fun _ ok1 => rc_nil) (fun _ ok1 => (r_tup (k_cons (k_var 6 ok1) (k_cons k_str ra_nil))))) ra_nil)))
  (rss_cons (s_ex (k_umt ok (k_var 0 ok) (k_cons (k_lc [("one", 7)] ok (i_seq ok (k_fld ok (k_var 0 ok))) (fun _ ok1 fn1 => (g_name 7 ok1)) (fun _ ok1 => rc_nil) (fun _ ok1 => (r_tup (k_cons (k_ix ok1 (k_var 7 ok1) k_int) (k_cons k_str ra_nil))))) ra_nil)))
  (rss_cons (s_ex (k_umt ok (k_var 0 ok) (k_cons (k_lc [("name", 6)] ok (i_seq ok (k_fld ok (k_var 0 ok))) (fun _ ok1 fn1 => (g_name 6 ok1)) (fun _ ok1 => rc_nil) (fun _ ok1 => (r_tup (k_cons (k_var 6 ok1) (k_cons k_str ra_nil))))) ra_nil)))
  (rss_cons (s_ex (k_umt ok (k_var 0 ok) (k_cons (k_lc [("one", 7)] ok (i_seq ok (k_fld ok (k_var 0 ok))) (fun _ ok1 fn1 => (g_name 7 ok1)) (fun _ ok1 => rc_nil) (fun _ ok1 => (r_tup (k_cons (k_ix ok1 (k_var 7 ok1) k_int) (k_cons k_str ra_nil))))) ra_nil)))
  (rss_cons (s_ex (k_umt ok (k_var 0 ok) (k_cons (k_lc [("name", 6)] ok (i_seq ok (k_fld ok (k_var 0 ok))) (fun _ ok1 fn1 => (g_name 6 ok1)) (fun _ ok1 => rc_nil) (fun _ ok1 => (r_tup (k_cons (k_var 6 ok1) (k_cons k_str ra_nil))))) ra_nil)))
  rss_nil))))))))))))
theorem w15 (hini : F.ini = tb.ini) (ok : XOk T G W F N15 (defScope (sub (top 27) 1)) X) (pa : PassesOwn (model X.prog X.w) X.A X.env X.xe) (fnT : ∀ x, X.fn x = true) : PSs X (defBody (sub (top 27) 1)) (tSs G W F b15) :=
  (rss_cons (s_for pa ok (i_seq ok (k_var 1 ok)) (g_tup ok (gs_cons (g_name 2 ok) (gs_cons (g_name 3 ok) rgs_nil))) (rss_cons (rs_if (h_in ok (k_var 2 ok) (k_fld ok (k_var 0 ok))) (rss_cons rs_stk
  rss_nil) rss_nil)
  (rss_cons (s_asg (k_var 3 ok) (rg_sub ok.hK ok.hP ok.hw ok.hu (k_fld ok (k_var 0 ok)) (k_var 2 ok) fun _ => rfl))
  rss_nil)))
  rss_nil)
theorem w16 (hini : F.ini = tb.ini) (ok : XOk T G W F N16 (defScope (sub (top 27) 2)) X) (pa : PassesOwn (model X.prog X.w) X.A X.env X.xe) (fnT : ∀ x, X.fn x = true) : PSs X (defBody (sub (top 27) 2)) (tSs G W F b16) :=
  (rss_cons (s_ex (k_call 0 [] 0 ok (k_cons k_int ra_nil)))
  rss_nil)
theorem w17 (hini : F.ini = tb.ini) (ok : XOk T G W F N17 (defScope (sub (top 27) 3)) X) (pa : PassesOwn (model X.prog X.w) X.A X.env X.xe) (fnT : ∀ x, X.fn x = true) : PSs X (defBody (sub (top 27) 3)) (tSs G W F b17) :=
  (rss_cons (s_ex (k_call 0 [] 0 ok (k_cons k_int ra_nil)))
  rss_nil)
theorem w18 (hini : F.ini = tb.ini) (ok : XOk T G W F N18 (defScope (sub (top 27) 4)) X) (pa : PassesOwn (model X.prog X.w) X.A X.env X.xe) (fnT : ∀ x, X.fn x = true) : PSs X (defBody (sub (top 27) 4)) (tSs G W F b18) :=
  (rss_cons (s_ex (k_call 0 [] 0 ok (k_cons k_int ra_nil)))
  rss_nil)
theorem w19 (hini : F.ini = tb.ini) (ok : XOk T G W F N19 (defScope (sub (top 27) 5)) X) (pa : PassesOwn (model X.prog X.w) X.A X.env X.xe) (fnT : ∀ x, X.fn x = true) : PSs X (defBody (sub (top 27) 5)) (tSs G W F b19) :=
  (rss_cons (s_ex (k_call 0 [] 0 ok (k_cons k_int ra_nil)))
  rss_nil)
theorem w20 (hini : F.ini = tb.ini) (ok : XOk T G W F N20 (defScope (sub (top 27) 6)) X) (pa : PassesOwn (model X.prog X.w) X.A X.env X.xe) (fnT : ∀ x, X.fn x = true) : PSs X (defBody (sub (top 27) 6)) (tSs G W F b20) :=
  (rss_cons (s_ex (k_call 0 [] 0 ok (k_cons k_int ra_nil)))
  rss_nil)
theorem w21 (hini : F.ini = tb.ini) (ok : XOk T G W F N21 (defScope (sub (top 27) 7)) X) (pa : PassesOwn (model X.prog X.w) X.A X.env X.xe) (fnT : ∀ x, X.fn x = true) : PSs X (defBody (sub (top 27) 7)) (tSs G W F b21) :=
  (rss_cons (s_set 2 ok (k_met (f := .get1) rfl ok (k_fld ok (k_var 0 ok)) (k_cons (k_var 1 ok) ra_nil)))
  (rss_cons (rs_if (h_eq ok (k_var 2 ok) k_str) (rss_cons (rs_ret k_non)
  rss_nil) rss_nil)
  (rss_cons (rs_ret (k_var 2 ok))
  rss_nil)))
theorem w22 (hini : F.ini = tb.ini) (ok : XOk T G W F N22 (defScope (sub (top 27) 8)) X) (pa : PassesOwn (model X.prog X.w) X.A X.env X.xe) (fnT : ∀ x, X.fn x = true) : PSs X (defBody (sub (top 27) 8)) (tSs G W F b22) :=
  (rss_cons (s_for pa ok (i_seq ok (k_fld ok (k_var 0 ok))) (g_tup ok (gs_cons (g_name 2 ok) (gs_cons (g_name 3 ok) (gs_cons (g_name 4 ok) rgs_nil)))) (rss_cons (rs_if (h_eq ok (k_var 2 ok) (k_var 1 ok)) (rss_cons (rs_ret (r_tup (k_cons (k_var 3 ok) (k_cons (k_var 4 ok) ra_nil))))
  rss_nil) rss_nil)
  rss_nil))
  (rss_cons (rs_ret k_non)
  rss_nil))
theorem w23 (hini : F.ini = tb.ini) (ok : XOk T G W F N23 (defScope (sub (top 27) 9)) X) (pa : PassesOwn (model X.prog X.w) X.A X.env X.xe) (fnT : ∀ x, X.fn x = true) : PSs X (defBody (sub (top 27) 9)) (tSs G W F b23) :=
  (rss_cons (s_for pa ok (i_seq ok (k_fld ok (k_var 0 ok))) (g_tup ok (gs_cons (g_name 2 ok) (gs_cons (g_name 3 ok) (gs_cons (g_name 4 ok) rgs_nil)))) (rss_cons (rs_if (h_eq ok (k_var 2 ok) (k_var 1 ok)) (rss_cons (rs_ret (r_tup (k_cons (k_var 3 ok) (k_cons (k_var 4 ok) ra_nil))))
  rss_nil) rss_nil)
  rss_nil))
  (rss_cons (rs_ret k_non)
  rss_nil))
theorem w24 (hini : F.ini = tb.ini) (ok : XOk T G W F N24 (defScope (top 31)) X) (pa : PassesOwn (model X.prog X.w) X.A X.env X.xe) (fnT : ∀ x, X.fn x = true) : PSs X (defBody (top 31)) (tSs G W F b24) :=
  (rss_cons (rs_if (rt_or (rt_not (h_val ok (k_isi .tuple ok rfl rfl (k_var 0 ok)))) (rt_or (h_eq ok (k_var 0 ok) (r_tup ra_nil)) (h_or1 (rt_not (h_val ok (k_isi .str ok rfl rfl (k_ix ok (k_var 0 ok) k_int))))))).pt (rss_cons (rs_ret (r_lst ra_nil))
  rss_nil) rss_nil)
  (rss_cons (rs_if (h_in ok (k_ix ok (k_var 0 ok) k_int) (r_tup (k_cons k_str (k_cons k_str ra_nil)))) (rss_cons (rs_ret (r_lst ra_nil))
  rss_nil) rss_nil)
  (rss_cons (rs_if (h_in ok (k_ix ok (k_var 0 ok) k_int) (r_tup (k_cons k_str (k_cons k_str ra_nil)))) (rss_cons (s_set 1 ok (k_sl ok (k_var 0 ok) (ro_some k_int) (ro_some k_int)))
  rss_nil) (rss_cons (s_set 1 ok (k_sl ok (k_var 0 ok) (ro_some k_int) ro_none))
  rss_nil))
  (rss_cons (rs_if (rt_and (h_in ok (k_ix ok (k_var 0 ok) k_int) (r_tup (k_cons k_str (k_cons k_str (k_cons k_str (k_cons k_str ra_nil)))))) (rt_and (h_ne ok (k_var 1 ok) (r_tup ra_nil)) (h_and1 (h_val ok (k_isi .tuple ok rfl rfl (k_ix ok (k_var 1 ok) k_int)))))).pt (rss_cons (s_set 1 ok (k_ix ok (k_var 1 ok) k_int))
  rss_nil) rss_nil)
  (rss_cons (rs_ret (k_lc [("one", 2)] ok (i_seq ok (k_var 1 ok)) (fun _ ok1 fn1 => (g_name 2 ok1)) (fun _ ok1 => (rc_one (h_val ok1 (k_isi .tuple ok1 rfl rfl (k_var 2 ok1))))) (fun _ ok1 => (k_var 2 ok1))))
  rss_nil)))))
theorem w25 (hini : F.ini = tb.ini) (ok : XOk T G W F N25 (defScope (top 32)) X) (pa : PassesOwn (model X.prog X.w) X.A X.env X.xe) (fnT : ∀ x, X.fn x = true) : PSs X (defBody (top 32)) (tSs G W F b25) :=
  (rss_cons (s_set 1 ok (r_lst (k_cons (k_var 0 ok) ra_nil)))
  (rss_cons (s_for pa ok (i_rng1 ok (k_con (.int 12) ok)) (g_name 2 ok) (rss_cons (s_set 3 ok (r_lst ra_nil))
  (rss_cons (s_for pa ok (i_seq ok (k_var 1 ok)) (g_name 4 ok) (rss_cons (s_ex (k_met (f := .extend) rfl ok (k_var 3 ok) (k_cons (k_call 24 [] 0 ok (k_cons (k_var 4 ok) ra_nil)) ra_nil)))
  rss_nil))
  (rss_cons (s_set 1 ok (k_var 3 ok))
  rss_nil))))
  (rss_cons (rs_ret (k_ne ok (k_var 1 ok) (r_lst ra_nil)))
  rss_nil)))
theorem w26 (hini : F.ini = tb.ini) (ok : XOk T G W F N26 (defScope (top 33)) X) (pa : PassesOwn (model X.prog X.w) X.A X.env X.xe) (fnT : ∀ x, X.fn x = true) : PSs X (defBody (top 33)) (tSs G W F b26) :=
  (rss_cons (rs_if (h_ne ok (k_call 30 [] 0 ok (k_cons (k_var 0 ok) (k_cons (k_var 1 ok) ra_nil))) (k_var 2 ok)) (rss_cons rs_stk
  rss_nil) rss_nil)
  rss_nil)
theorem w27 (hini : F.ini = tb.ini) (ok : XOk T G W F N27 (defScope (top 34)) X) (pa : PassesOwn (model X.prog X.w) X.A X.env X.xe) (fnT : ∀ x, X.fn x = true) : PSs X (defBody (top 34)) (tSs G W F b27) :=
  (rss_cons (s_set 3 ok k_non)
  (rss_cons (rs_if (h_val ok (k_call 8 [] 0 ok (k_cons (k_var 1 ok) ra_nil))) (rss_cons (s_set 3 ok (k_umt ok (k_var 0 ok) (k_cons (k_var 1 ok) ra_nil)))
  rss_nil) rss_nil)
  (rss_cons (rs_if (rt_or (h_isN (k_var 3 ok)) (rt_or (rt_not (h_val ok (k_isi .tuple ok rfl rfl (k_var 2 ok)))) (h_or1 (h_ne ok (k_blt (len_ok ok.hK ok.hP ok.hw) ok rfl (k_cons (k_var 2 ok) ra_nil)) (k_blt (len_ok ok.hK ok.hP ok.hw) ok rfl (k_cons (k_ix ok (k_var 3 ok) k_int) ra_nil)))))).pt (rss_cons rs_stk
  rss_nil) rss_nil)
  (rss_cons (s_for pa ok (i_zip ok (k_var 2 ok) (k_ix ok (k_var 3 ok) k_int)) (g_tup ok (gs_cons (g_name 4 ok) (gs_cons (g_name 5 ok) rgs_nil))) (rss_cons (s_ex (k_call 26 [] 0 ok (k_cons (k_var 0 ok) (k_cons (k_var 4 ok) (k_cons (k_var 5 ok) ra_nil)))))
  rss_nil))
  (rss_cons (rs_ret (k_ix ok (k_var 3 ok) k_int))
  rss_nil)))))
theorem w28 (hini : F.ini = tb.ini) (ok : XOk T G W F N28 (defScope (top 35)) X) (pa : PassesOwn (model X.prog X.w) X.A X.env X.xe) (fnT : ∀ x, X.fn x = true) : PSs X (defBody (top 35)) (tSs G W F b28) :=
  (rss_cons (s_set 2 ok k_non)
  (rss_cons (rs_if (h_val ok (k_call 8 [] 0 ok (k_cons (k_var 1 ok) ra_nil))) (rss_cons (s_set 2 ok (k_umt ok (k_var 0 ok) (k_cons (k_var 1 ok) ra_nil)))
  rss_nil) rss_nil)
  (rss_cons (rs_if (h_isN (k_var 2 ok)) (rss_cons rs_stk
  rss_nil) rss_nil)
  (rss_cons (rs_ret (k_var 2 ok))
  rss_nil))))
theorem w29 (hini : F.ini = tb.ini) (ok : XOk T G W F N29 (defScope (top 36)) X) (pa : PassesOwn (model X.prog X.w) X.A X.env X.xe) (fnT : ∀ x, X.fn x = true) : PSs X (defBody (top 36)) (tSs G W F b29) :=
  (rss_cons (rs_if (h_val ok (k_call 25 [] 0 ok (k_cons (k_var 1 ok) ra_nil))) (rss_cons rs_stk
  rss_nil) rss_nil)
  (rss_cons (rs_ret (k_call 30 [] 0 ok (k_cons (k_var 0 ok) (k_cons (k_var 1 ok) ra_nil))))
  rss_nil))
theorem w30 (hini : F.ini = tb.ini) (ok : XOk T G W F N30 (defScope (top 37)) X) (pa : PassesOwn (model X.prog X.w) X.A X.env X.xe) (fnT : ∀ x, X.fn x = true) : PSs X (defBody (top 37)) (tSs G W F b30) :=
  (rss_cons (rs_if (rt_or (rt_not (h_val ok (k_isi .tuple ok rfl rfl (k_var 1 ok)))) (rt_or (h_eq ok (k_var 1 ok) (r_tup ra_nil)) (h_or1 (rt_not (h_val ok (k_isi .str ok rfl rfl (k_ix ok (k_var 1 ok) k_int))))))).pt (rss_cons rs_stk
  rss_nil) rss_nil)
  (rss_cons (s_set 2 ok (k_ix ok (k_var 1 ok) k_int))
  (rss_cons (rs_if (h_ne ok (k_dget [("number", (.int 2)), ("unknown", (.int 2)), ("weigh", (.int 3)), ("plus", (.int 2)), ("call", (.int 3)), ("read", (.int 3)), ("put", (.int 4))] ok (k_var 2 ok)) (k_blt (len_ok ok.hK ok.hP ok.hw) ok rfl (k_cons (k_var 1 ok) ra_nil))) (rss_cons rs_stk
  rss_nil) rss_nil)
  (rss_cons (rs_if (h_eq ok (k_var 2 ok) k_str) (rss_cons (rs_ret (k_call 28 [] 0 ok (k_cons (k_var 0 ok) (k_cons (k_ix ok (k_var 1 ok) k_int) ra_nil))))
  rss_nil) rss_nil)
  (rss_cons (rs_if (h_eq ok (k_var 2 ok) k_str) (rss_cons (rs_ret (k_call 27 [] 0 ok (k_cons (k_var 0 ok) (k_cons (k_ix ok (k_var 1 ok) k_int) (k_cons (k_ix ok (k_var 1 ok) k_int) ra_nil)))))
  rss_nil) rss_nil)
  (rss_cons (rs_if (h_eq ok (k_var 2 ok) k_str) (rss_cons (s_ex (k_call 26 [] 0 ok (k_cons (k_var 0 ok) (k_cons (k_ix ok (k_var 1 ok) k_int) (k_cons k_str ra_nil)))))
  (rss_cons (s_ex (k_call 26 [] 0 ok (k_cons (k_var 0 ok) (k_cons (k_ix ok (k_var 1 ok) k_int) (k_cons k_str ra_nil)))))
  (rss_cons (s_ex (k_call 26 [] 0 ok (k_cons (k_var 0 ok) (k_cons (k_ix ok (k_var 1 ok) k_int) (k_cons k_str ra_nil)))))
  (rss_cons (rs_ret k_str)
  rss_nil)))) rss_nil)
  (rss_cons (rs_if (h_eq ok (k_var 2 ok) k_str) (rss_cons (s_ex (k_call 26 [] 0 ok (k_cons (k_var 0 ok) (k_cons (k_ix ok (k_var 1 ok) k_int) (k_cons k_str ra_nil)))))
  (rss_cons (s_ex (k_call 26 [] 0 ok (k_cons (k_var 0 ok) (k_cons (k_ix ok (k_var 1 ok) k_int) (k_cons k_str ra_nil)))))
  rss_nil)) (rss_cons (rs_if (h_eq ok (k_var 2 ok) k_str) (rss_cons (rs_if (rt_not (h_val ok (k_isi .tuple ok rfl rfl (k_ix ok (k_var 1 ok) k_int)))) (rss_cons rs_stk
  rss_nil) rss_nil)
  (rss_cons (s_for pa ok (i_seq ok (k_ix ok (k_var 1 ok) k_int)) (g_name 3 ok) (rss_cons (s_ex (k_call 26 [] 0 ok (k_cons (k_var 0 ok) (k_cons (k_var 3 ok) (k_cons k_str ra_nil)))))
  rss_nil))
  rss_nil)) (rss_cons (rs_if (rt_not (h_val ok (k_call 7 [] 0 ok (k_cons (k_ix ok (k_var 1 ok) k_int) ra_nil)))) (rss_cons rs_stk
  rss_nil) (rss_cons (rs_if (h_eq ok (k_var 2 ok) k_str) (rss_cons (s_ex (k_call 26 [] 0 ok (k_cons (k_var 0 ok) (k_cons (k_ix ok (k_var 1 ok) k_int) (k_cons k_str ra_nil)))))
  rss_nil) rss_nil)
  rss_nil))
  rss_nil))
  rss_nil))
  (rss_cons (rs_ret k_str)
  rss_nil))))))))
theorem w31 (hini : F.ini = tb.ini) (ok : XOk T G W F N31 (defScope (top 40)) X) (pa : PassesOwn (model X.prog X.w) X.A X.env X.xe) (fnT : ∀ x, X.fn x = true) : PSs X (defBody (top 40)) (tSs G W F b31) :=
  (rss_cons (rs_if (h_ne ok (k_blt (len_ok ok.hK ok.hP ok.hw) ok rfl (k_cons (k_var 1 ok) ra_nil)) k_int) (rss_cons rs_stk
  rss_nil) rss_nil)
  (rss_cons (s_thru ok fun okN => (rss_cons (s_set 2 okN (r_lst (k_cons (k_call 30 [] 0 okN (k_cons (k_var 0 okN) (k_cons (k_ix okN (k_var 1 okN) k_int) ra_nil))) (k_cons (k_call 30 [] 0 okN (k_cons (k_var 0 okN) (k_cons (k_ix okN (k_var 1 okN) k_int) ra_nil))) ra_nil))))
  rss_nil))
  (rss_cons (rs_if (rt_and (h_ne ok (k_var 2 ok) (r_lst (k_cons k_str (k_cons k_str ra_nil)))) (h_and1 (rt_or (h_ne ok (k_ix ok (k_var 1 ok) k_int) k_str) (h_or1 (h_ne ok (k_var 2 ok) (r_lst (k_cons k_str (k_cons k_str ra_nil)))))).pt)).pt (rss_cons rs_stk
  rss_nil) rss_nil)
  rss_nil)))
theorem w32 (hini : F.ini = tb.ini) (ok : XOk T G W F N32 (defScope (top 41)) X) (pa : PassesOwn (model X.prog X.w) X.A X.env X.xe) (fnT : ∀ x, X.fn x = true) : PSs X (defBody (top 41)) (tSs G W F b32) :=
  (rss_cons (rs_if (h_val ok (k_call 25 [] 0 ok (k_cons (k_var 1 ok) ra_nil))) (rss_cons rs_stk
  rss_nil) rss_nil)
  (rss_cons (s_ex (k_call 33 [] 0 ok (k_cons (k_var 0 ok) (k_cons (k_var 1 ok) ra_nil))))
  rss_nil))
theorem w33 (hini : F.ini = tb.ini) (ok : XOk T G W F N33 (defScope (top 42)) X) (pa : PassesOwn (model X.prog X.w) X.A X.env X.xe) (fnT : ∀ x, X.fn x = true) : PSs X (defBody (top 42)) (tSs G W F b33) :=
  (rss_cons (rs_if (rt_or (rt_not (h_val ok (k_isi .tuple ok rfl rfl (k_var 1 ok)))) (rt_or (h_eq ok (k_var 1 ok) (r_tup ra_nil)) (h_or1 (rt_not (h_val ok (k_isi .str ok rfl rfl (k_ix ok (k_var 1 ok) k_int))))))).pt (rss_cons rs_stk
  rss_nil) rss_nil)
  (rss_cons (s_set 2 ok (k_ix ok (k_var 1 ok) k_int))
  (rss_cons (rs_if (h_in ok (k_var 2 ok) (k_con (.tup [(.str "atmost"), (.str "below"), (.str "same")]) ok)) (rss_cons (s_ex (k_call 31 [] 0 ok (k_cons (k_var 0 ok) (k_cons (k_var 1 ok) ra_nil))))
  rss_nil) (rss_cons (rs_if (rt_and (h_eq ok (k_var 2 ok) k_str) (h_and1 (h_eq ok (k_blt (len_ok ok.hK ok.hP ok.hw) ok rfl (k_cons (k_var 1 ok) ra_nil)) k_int))).pt (rss_cons (s_ex (k_call 33 [] 0 ok (k_cons (k_var 0 ok) (k_cons (k_ix ok (k_var 1 ok) k_int) ra_nil))))
  rss_nil) (rss_cons (rs_if (rt_and (h_in ok (k_var 2 ok) (r_tup (k_cons k_str (k_cons k_str ra_nil)))) (rt_and (h_eq ok (k_blt (len_ok ok.hK ok.hP ok.hw) ok rfl (k_cons (k_var 1 ok) ra_nil)) k_int) (h_and1 (h_val ok (k_isi .tuple ok rfl rfl (k_ix ok (k_var 1 ok) k_int)))))).pt (rss_cons (s_for pa ok (i_seq ok (k_ix ok (k_var 1 ok) k_int)) (g_name 3 ok) (rss_cons (s_ex (k_call 33 [] 0 ok (k_cons (k_var 0 ok) (k_cons (k_var 3 ok) ra_nil))))
  rss_nil))
  rss_nil) (rss_cons rs_stk
  rss_nil))
  rss_nil))
  rss_nil))
  rss_nil)))
theorem w34 (hini : F.ini = tb.ini) (ok : XOk T G W F N34 (defScope (top 44)) X) (pa : PassesOwn (model X.prog X.w) X.A X.env X.xe) (fnT : ∀ x, X.fn x = true) : PSs X (defBody (top 44)) (tSs G W F b34) :=
  (rss_cons (rs_if (h_lt ok (k_var 1 ok) (k_blt (len_ok ok.hK ok.hP ok.hw) ok rfl (k_cons (k_var 0 ok) ra_nil))) (rss_cons (rs_ret (k_ix ok (k_var 0 ok) (k_var 1 ok)))
  rss_nil) rss_nil)
  (rss_cons (rs_ret k_int)
  rss_nil))
theorem w35 (hini : F.ini = tb.ini) (ok : XOk T G W F N35 (defScope (top 45)) X) (pa : PassesOwn (model X.prog X.w) X.A X.env X.xe) (fnT : ∀ x, X.fn x = true) : PSs X (defBody (top 45)) (tSs G W F b35) :=
  (rss_cons (s_set 2 ok (r_lst ra_nil))
  (rss_cons (s_set 3 ok (k_fdiv ok (k_var 0 ok) k_int))
  (rss_cons (rs_whl pa (rt_and (h_lt ok (k_blt (len_ok ok.hK ok.hP ok.hw) ok rfl (k_cons (k_var 2 ok) ra_nil)) (k_var 1 ok)) (h_and1 (h_gt ok (k_var 3 ok) k_int))).pt (rss_cons (s_ex (k_met (f := .append) rfl ok (k_var 2 ok) (k_cons (k_mod ok (k_var 3 ok) (k_pow ok k_int k_int)) ra_nil)))
  (rss_cons (s_set 3 ok (k_fdiv ok (k_var 3 ok) (k_pow ok k_int k_int)))
  rss_nil)))
  (rss_cons (s_set 4 ok (k_mod ok (k_mul ok (k_add ok (k_var 0 ok) k_int) k_int) k_int))
  (rss_cons (rs_whl pa (h_lt ok (k_blt (len_ok ok.hK ok.hP ok.hw) ok rfl (k_cons (k_var 2 ok) ra_nil)) (k_var 1 ok)) (rss_cons (s_set 5 ok (k_add ok (k_add ok (k_var 4 ok) (k_mul ok k_int (k_blt (len_ok ok.hK ok.hP ok.hw) ok rfl (k_cons (k_var 2 ok) ra_nil)))) k_int))
  (rss_cons (s_set 4 ok (k_mod ok (k_mul ok (k_var 5 ok) (k_add ok (k_fdiv ok (k_var 4 ok) k_int) k_int)) k_int))
  (rss_cons (s_ex (k_met (f := .append) rfl ok (k_var 2 ok) (k_cons (k_mod ok (k_mul ok (k_var 4 ok) (k_add ok (k_fdiv ok (k_var 4 ok) k_int) k_int)) k_int) ra_nil)))
  rss_nil))))
  (rss_cons (rs_ret (k_rev ok (k_var 2 ok)))
  rss_nil))))))
theorem w36 (hini : F.ini = tb.ini) (ok : XOk T G W F N36 (defScope (top 46)) X) (pa : PassesOwn (model X.prog X.w) X.A X.env X.xe) (fnT : ∀ x, X.fn x = true) : PSs X (defBody (top 46)) (tSs G W F b36) :=
  (rss_cons (rs_if (h_eq ok (k_var 0 ok) (r_lst ra_nil)) (rss_cons (rs_ret k_int)
  rss_nil) rss_nil)
  (rss_cons (rs_ret (k_met0 (f := .pop) rfl ok (k_var 0 ok)))
  rss_nil))
theorem w37 (hini : F.ini = tb.ini) (ok : XOk T G W F N37 (defScope (top 47)) X) (pa : PassesOwn (model X.prog X.w) X.A X.env X.xe) (fnT : ∀ x, X.fn x = true) : PSs X (defBody (top 47)) (tSs G W F b37) :=
  (rss_cons (s_set 1 ok (k_sub ok (k_mod ok (k_var 0 ok) k_int) k_int))
  (rss_cons (s_set 2 ok (k_ix ok (r_lst (k_cons k_int (k_cons k_int (k_cons k_int (k_cons k_int ra_nil))))) (k_mod ok (k_fdiv ok (k_var 0 ok) k_int) k_int)))
  (rss_cons (rs_if (rt_and (h_gt ok (k_var 2 ok) k_int) (h_and1 (h_eq ok (k_mod ok (k_var 1 ok) (k_var 2 ok)) k_int))).pt (rss_cons (rs_ret (r_tup (k_cons (k_fdiv ok (k_var 1 ok) (k_var 2 ok)) (k_cons k_int ra_nil))))
  rss_nil) rss_nil)
  (rss_cons (rs_ret (r_tup (k_cons (k_var 1 ok) (k_cons (k_var 2 ok) ra_nil))))
  rss_nil))))
theorem w38 (hini : F.ini = tb.ini) (ok : XOk T G W F N38 (defScope (top 48)) X) (pa : PassesOwn (model X.prog X.w) X.A X.env X.xe) (fnT : ∀ x, X.fn x = true) : PSs X (defBody (top 48)) (tSs G W F b38) :=
  (rss_cons (s_set 2 ok (k_call 36 [] 0 ok (k_cons (k_var 0 ok) ra_nil)))
  (rss_cons (s_set 3 ok (k_mod ok (k_var 2 ok) k_int))
  (rss_cons (rs_if (rt_or (h_lt ok (k_var 1 ok) k_int) (h_or1 (h_lt ok (k_var 3 ok) k_int))).pt (rss_cons (rs_ret (r_tup (k_cons k_str (k_cons (k_ix ok (r_lst (k_cons k_str (k_cons k_str (k_cons k_str (k_cons k_str ra_nil))))) (k_mod ok (k_fdiv ok (k_var 2 ok) k_int) k_int)) ra_nil))))
  rss_nil) rss_nil)
  (rss_cons (rs_if (h_eq ok (k_var 3 ok) k_int) (rss_cons (rs_ret (r_tup (k_cons k_str (k_cons (k_call 37 [] 0 ok (k_cons (k_fdiv ok (k_var 2 ok) k_int) ra_nil)) ra_nil))))
  rss_nil) rss_nil)
  (rss_cons (rs_if (h_eq ok (k_var 3 ok) k_int) (rss_cons (rs_ret (r_tup (k_cons k_str (k_cons (k_call 37 [] 0 ok (k_cons (k_fdiv ok (k_var 2 ok) k_int) ra_nil)) (k_cons (k_call 38 [] 0 ok (k_cons (k_var 0 ok) (k_cons (k_sub ok (k_var 1 ok) k_int) ra_nil))) ra_nil)))))
  rss_nil) rss_nil)
  (rss_cons (rs_if (h_eq ok (k_var 3 ok) k_int) (rss_cons (rs_ret (r_tup (k_cons k_str (k_cons k_str (k_cons (r_tup (k_cons (k_call 38 [] 0 ok (k_cons (k_var 0 ok) (k_cons (k_sub ok (k_var 1 ok) k_int) ra_nil))) ra_nil)) ra_nil)))))
  rss_nil) rss_nil)
  (rss_cons (rs_if (h_lt ok (k_var 3 ok) k_int) (rss_cons (s_set 4 ok (k_call 39 [] 0 ok (k_cons (k_var 0 ok) (k_cons (k_sub ok (k_var 1 ok) k_int) ra_nil))))
  (rss_cons (rs_ret (r_tup (k_cons k_str (k_cons (k_var 4 ok) (k_cons (k_call 38 [] 0 ok (k_cons (k_var 0 ok) (k_cons (k_sub ok (k_var 1 ok) k_int) ra_nil))) ra_nil)))))
  rss_nil)) rss_nil)
  (rss_cons (s_set 5 ok (k_call 38 [] 0 ok (k_cons (k_var 0 ok) (k_cons (k_sub ok (k_var 1 ok) k_int) ra_nil))))
  (rss_cons (rs_ret (r_tup (k_cons k_str (k_cons (r_tup (k_cons (k_var 5 ok) (k_cons (k_call 38 [] 0 ok (k_cons (k_var 0 ok) (k_cons (k_sub ok (k_var 1 ok) k_int) ra_nil))) ra_nil))) ra_nil))))
  rss_nil)))))))))
theorem w39 (hini : F.ini = tb.ini) (ok : XOk T G W F N39 (defScope (top 49)) X) (pa : PassesOwn (model X.prog X.w) X.A X.env X.xe) (fnT : ∀ x, X.fn x = true) : PSs X (defBody (top 49)) (tSs G W F b39) :=
  (rss_cons (s_set 2 ok (k_call 36 [] 0 ok (k_cons (k_var 0 ok) ra_nil)))
  (rss_cons (rs_if (rt_or (h_lt ok (k_var 1 ok) k_int) (h_or1 (h_eq ok (k_mod ok (k_var 2 ok) k_int) k_int))).pt (rss_cons (rs_ret (r_tup (k_cons k_str (k_cons (k_ix ok (r_lst (k_cons k_str (k_cons k_str ra_nil))) (k_mod ok (k_fdiv ok (k_var 2 ok) k_int) k_int)) ra_nil))))
  rss_nil) rss_nil)
  (rss_cons (s_set 3 ok (k_call 39 [] 0 ok (k_cons (k_var 0 ok) (k_cons (k_sub ok (k_var 1 ok) k_int) ra_nil))))
  (rss_cons (s_set 4 ok (k_call 38 [] 0 ok (k_cons (k_var 0 ok) (k_cons (k_sub ok (k_var 1 ok) k_int) ra_nil))))
  (rss_cons (rs_ret (r_tup (k_cons k_str (k_cons (k_var 3 ok) (k_cons (k_var 4 ok) (k_cons (k_call 38 [] 0 ok (k_cons (k_var 0 ok) (k_cons (k_sub ok (k_var 1 ok) k_int) ra_nil))) ra_nil))))))
  rss_nil)))))
theorem w40 (hini : F.ini = tb.ini) (ok : XOk T G W F N40 (defScope (top 50)) X) (pa : PassesOwn (model X.prog X.w) X.A X.env X.xe) (fnT : ∀ x, X.fn x = true) : PSs X (defBody (top 50)) (tSs G W F b40) :=
  (rss_cons (s_set 1 ok (k_call 35 [] 0 ok (k_cons (k_var 0 ok) (k_cons k_int ra_nil))))
  (rss_cons (s_set 2 ok (r_tup (k_cons k_str (k_cons (k_ix ok (r_lst (k_cons k_str (k_cons k_str ra_nil))) (k_mod ok (k_var 0 ok) k_int)) ra_nil))))
  (rss_cons (s_for pa ok (i_rng1 ok (k_mod ok (k_fdiv ok (k_var 0 ok) k_int) k_int)) (g_name 3 ok) (rss_cons (s_set 4 ok (k_call 38 [] 0 ok (k_cons (k_var 1 ok) (k_cons (k_mod ok (k_fdiv ok (k_var 0 ok) k_int) k_int) ra_nil))))
  (rss_cons (s_set 2 ok (r_tup (k_cons k_str (k_cons (k_var 2 ok) (k_cons (k_var 4 ok) (k_cons (k_call 38 [] 0 ok (k_cons (k_var 1 ok) (k_cons (k_mod ok (k_fdiv ok (k_var 0 ok) k_int) k_int) ra_nil))) ra_nil))))))
  rss_nil)))
  (rss_cons (rs_ret (r_tup (k_cons k_str (k_cons (k_var 2 ok) (k_cons (k_call 38 [] 0 ok (k_cons (k_var 1 ok) (k_cons (k_mod ok (k_fdiv ok (k_var 0 ok) k_int) k_int) ra_nil))) ra_nil)))))
  rss_nil))))
theorem w41 (hini : F.ini = tb.ini) (ok : XOk T G W F N41 (defScope (top 51)) X) (pa : PassesOwn (model X.prog X.w) X.A X.env X.xe) (fnT : ∀ x, X.fn x = true) : PSs X (defBody (top 51)) (tSs G W F b41) :=
  (rss_cons (s_for pa ok (i_rng1 ok k_int) (g_name 2 ok) (rss_cons (rs_if (rt_or (h_ne ok (k_call 2 [] 0 ok (k_cons (k_var 1 ok) ra_nil)) (k_ix ok (k_ix ok (k_var 1 ok) k_int) k_int)) (h_or1 (h_ne ok (k_call 29 [] 0 ok (k_cons (k_var 0 ok) (k_cons (k_call 2 [] 0 ok (k_cons (k_var 1 ok) ra_nil)) ra_nil))) k_str))).pt (rss_cons (rs_ret k_bl)
  rss_nil) rss_nil)
  (rss_cons (rs_if (rt_or (h_ne ok (k_call 3 [] 0 ok (k_cons (k_var 1 ok) ra_nil)) (r_tup (k_cons k_str (k_cons (k_ix ok (k_ix ok (k_var 1 ok) k_int) k_int) (k_cons (k_ix ok (k_var 1 ok) k_int) ra_nil))))) (h_or1 (h_ne ok (k_call 29 [] 0 ok (k_cons (k_var 0 ok) (k_cons (k_call 3 [] 0 ok (k_cons (k_var 1 ok) ra_nil)) ra_nil))) k_str))).pt (rss_cons (rs_ret k_bl)
  rss_nil) rss_nil)
  (rss_cons (rs_if (rt_or (h_ne ok (k_call 4 [] 0 ok (k_cons (k_var 1 ok) ra_nil)) (r_tup (k_cons k_str (k_cons (k_ix ok (k_var 1 ok) k_int) (k_cons (k_ix ok (k_ix ok (k_var 1 ok) k_int) k_int) ra_nil))))) (h_or1 (h_notN (k_call 32 [] 0 ok (k_cons (k_var 0 ok) (k_cons (k_call 4 [] 0 ok (k_cons (k_var 1 ok) ra_nil)) ra_nil)))))).pt (rss_cons (rs_ret k_bl)
  rss_nil) rss_nil)
  rss_nil))))
  (rss_cons (rs_ret k_bl)
  rss_nil))
theorem w42 (hini : F.ini = tb.ini) (ok : XOk T G W F N42 (defScope (top 52)) X) (pa : PassesOwn (model X.prog X.w) X.A X.env X.xe) (fnT : ∀ x, X.fn x = true) : PSs X (defBody (top 52)) (tSs G W F b42) :=
  (rss_cons (s_set 1 ok (k_mk 0 14 ok (k_cons (r_lst (k_cons k_str (k_cons k_str (k_cons k_str ra_nil)))) (k_cons (r_lst (k_cons (r_tup (k_cons k_str (k_cons k_int (k_cons k_int ra_nil)))) ra_nil)) (k_cons (r_lst ra_nil) (k_cons (r_lst (k_cons (r_tup (k_cons k_str (k_cons (r_tup (k_cons k_str ra_nil)) (k_cons k_str ra_nil)))) ra_nil)) (k_cons (r_lst (k_cons k_str (k_cons k_str ra_nil))) ra_nil))))) ((congrFun hini 0).trans rfl)))
  (rss_cons (s_for pa ok (i_seq ok (k_add ok (k_sl ok (k_var 0 ok) ro_none (ro_some k_int)) (r_lst (k_cons k_int ra_nil)))) (g_name 2 ok) (rss_cons (s_set 3 ok (k_call 40 [] 0 ok (k_cons (k_var 2 ok) ra_nil)))
  (rss_cons (s_set 4 ok (k_mod ok (k_fdiv ok (k_var 2 ok) k_int) k_int))
  (rss_cons (s_for pa ok (i_rng1 ok (k_var 4 ok)) (g_name 5 ok) (rss_cons (rs_if (rt_or (h_notB (k_call 1 [] 0 ok (k_cons (k_var 3 ok) ra_nil))) (h_or1 (rt_not (h_val ok (k_call 41 [] 0 ok (k_cons (k_var 1 ok) (k_cons (k_var 3 ok) ra_nil))))))).pt (rss_cons (rs_ret k_bl)
  rss_nil) rss_nil)
  (rss_cons (s_set 3 ok (k_call 3 [] 0 ok (k_cons (k_var 3 ok) ra_nil)))
  rss_nil)))
  (rss_cons (rs_if (rt_or (h_notB (k_call 1 [] 0 ok (k_cons (k_var 3 ok) ra_nil))) (h_or1 (h_ne ok (k_ix ok (k_ix ok (k_var 3 ok) k_int) k_int) k_str))).pt (rss_cons (rs_ret k_bl)
  rss_nil) rss_nil)
  (rss_cons (s_for pa ok (i_seq ok (r_lst (k_cons (k_ix ok (k_var 3 ok) k_int) (k_cons (r_tup (k_cons k_str (k_cons k_str ra_nil))) (k_cons (r_tup (k_cons k_str (k_cons (r_tup ra_nil) ra_nil))) (k_cons (r_tup (k_cons k_str (k_cons (r_tup (k_cons k_int (k_cons k_int ra_nil))) ra_nil))) (k_cons (r_tup (k_cons k_str (k_cons k_str (k_cons (r_tup (k_cons (k_var 3 ok) ra_nil)) ra_nil)))) ra_nil))))))) (g_name 6 ok) (rss_cons (rs_if (h_ne ok (k_call 1 [] 0 ok (k_cons (k_var 6 ok) ra_nil)) (k_and ok (k_eq ok (k_ix ok (k_var 6 ok) k_int) k_str) (k_and1 (k_eq ok (k_ix ok (k_ix ok (k_var 6 ok) k_int) k_int) k_str)))) (rss_cons (rs_ret k_bl)
  rss_nil) rss_nil)
  rss_nil))
  rss_nil))))))
  (rss_cons (rs_ret k_bl)
  rss_nil)))
end
end Q41

set_option Elab.async false
set_option linter.all false
set_option maxRecDepth 100000
set_option maxHeartbeats 4000000
namespace Q41
open PySem PySem.Spec PyProof.Rows L2 Mp
theorem sc0 : FnScope N0 P0 (defScope (top 0)) := ⟨rfl, rfl, rfl, by decide +kernel, rfl, by decide +kernel, by decide +kernel⟩
theorem bo0 : BindOk D0 := fun _ _ _ _ _ _ us hl => match us, hl with | [_], _ => rfl
theorem sc1 : FnScope N1 P1 (defScope (top 2)) := ⟨rfl, rfl, rfl, by decide +kernel, rfl, by decide +kernel, by decide +kernel⟩
theorem bo1 : BindOk D1 := fun _ _ _ _ _ _ us hl => match us, hl with | [_], _ => rfl
theorem sc2 : FnScope N2 P2 (defScope (top 3)) := ⟨rfl, rfl, rfl, by decide +kernel, rfl, by decide +kernel, by decide +kernel⟩
theorem bo2 : BindOk D2 := fun _ _ _ _ _ _ us hl => match us, hl with | [_], _ => rfl
theorem sc3 : FnScope N3 P3 (defScope (top 4)) := ⟨rfl, rfl, rfl, by decide +kernel, rfl, by decide +kernel, by decide +kernel⟩
theorem bo3 : BindOk D3 := fun _ _ _ _ _ _ us hl => match us, hl with | [_], _ => rfl
theorem sc4 : FnScope N4 P4 (defScope (top 5)) := ⟨rfl, rfl, rfl, by decide +kernel, rfl, by decide +kernel, by decide +kernel⟩
theorem bo4 : BindOk D4 := fun _ _ _ _ _ _ us hl => match us, hl with | [_], _ => rfl
theorem sc5 : FnScope N5 P5 (defScope (top 12)) := ⟨rfl, rfl, rfl, by decide +kernel, rfl, by decide +kernel, by decide +kernel⟩
theorem bo5 : BindOk D5 := fun _ _ _ _ _ _ us hl => match us, hl with | [_], _ => rfl
theorem sc6 : FnScope N6 P6 (defScope (top 13)) := ⟨rfl, rfl, rfl, by decide +kernel, rfl, by decide +kernel, by decide +kernel⟩
theorem bo6 : BindOk D6 := fun _ _ _ _ _ _ us hl => match us, hl with | [_, _], _ => rfl
theorem sc7 : FnScope N7 P7 (defScope (top 14)) := ⟨rfl, rfl, rfl, by decide +kernel, rfl, by decide +kernel, by decide +kernel⟩
theorem bo7 : BindOk D7 := fun _ _ _ _ _ _ us hl => match us, hl with | [_], _ => rfl
theorem sc8 : FnScope N8 P8 (defScope (top 21)) := ⟨rfl, rfl, rfl, by decide +kernel, rfl, by decide +kernel, by decide +kernel⟩
theorem bo8 : BindOk D8 := fun _ _ _ _ _ _ us hl => match us, hl with | [_], _ => rfl
theorem sc9 : FnScope N9 P9 (defScope (top 22)) := ⟨rfl, rfl, rfl, by decide +kernel, rfl, by decide +kernel, by decide +kernel⟩
theorem bo9 : BindOk D9 := fun _ _ _ _ _ _ us hl => match us, hl with | [_], _ => rfl
theorem sc10 : FnScope N10 P10 (defScope (top 23)) := ⟨rfl, rfl, rfl, by decide +kernel, rfl, by decide +kernel, by decide +kernel⟩
theorem bo10 : BindOk D10 := fun _ _ _ _ _ _ us hl => match us, hl with | [_], _ => rfl
theorem sc11 : FnScope N11 P11 (defScope (top 24)) := ⟨rfl, rfl, rfl, by decide +kernel, rfl, by decide +kernel, by decide +kernel⟩
theorem bo11 : BindOk D11 := fun _ _ _ _ _ _ us hl => match us, hl with | [_], _ => rfl
theorem sc12 : FnScope N12 P12 (defScope (top 25)) := ⟨rfl, rfl, rfl, by decide +kernel, rfl, by decide +kernel, by decide +kernel⟩
theorem bo12 : BindOk D12 := fun _ _ _ _ _ _ us hl => match us, hl with | [_, _], _ => rfl
theorem sc13 : FnScope N13 P13 (defScope (top 26)) := ⟨rfl, rfl, rfl, by decide +kernel, rfl, by decide +kernel, by decide +kernel⟩
theorem bo13 : BindOk D13 := fun _ _ _ _ _ _ us hl => match us, hl with | [_], _ => rfl
theorem sc14 : FnScope N14 P14 (defScope (sub (top 27) 0)) := ⟨rfl, rfl, rfl, by decide +kernel, rfl, by decide +kernel, by decide +kernel⟩
theorem bo14 : BindOk D14 := fun _ _ _ _ _ _ us hl => match us, hl with | [_, _, _, _, _, _], _ => rfl
theorem sc15 : FnScope N15 P15 (defScope (sub (top 27) 1)) := ⟨rfl, rfl, rfl, by decide +kernel, rfl, by decide +kernel, by decide +kernel⟩
theorem bo15 : BindOk D15 := fun _ _ _ _ _ _ us hl => match us, hl with | [_, _], _ => rfl
theorem sc16 : FnScope N16 P16 (defScope (sub (top 27) 2)) := ⟨rfl, rfl, rfl, by decide +kernel, rfl, by decide +kernel, by decide +kernel⟩
theorem bo16 : BindOk D16 := fun _ _ _ _ _ _ us hl => match us, hl with | [_], _ => rfl
theorem sc17 : FnScope N17 P17 (defScope (sub (top 27) 3)) := ⟨rfl, rfl, rfl, by decide +kernel, rfl, by decide +kernel, by decide +kernel⟩
theorem bo17 : BindOk D17 := fun _ _ _ _ _ _ us hl => match us, hl with | [_], _ => rfl
theorem sc18 : FnScope N18 P18 (defScope (sub (top 27) 4)) := ⟨rfl, rfl, rfl, by decide +kernel, rfl, by decide +kernel, by decide +kernel⟩
theorem bo18 : BindOk D18 := fun _ _ _ _ _ _ us hl => match us, hl with | [_], _ => rfl
theorem sc19 : FnScope N19 P19 (defScope (sub (top 27) 5)) := ⟨rfl, rfl, rfl, by decide +kernel, rfl, by decide +kernel, by decide +kernel⟩
theorem bo19 : BindOk D19 := fun _ _ _ _ _ _ us hl => match us, hl with | [_], _ => rfl
theorem sc20 : FnScope N20 P20 (defScope (sub (top 27) 6)) := ⟨rfl, rfl, rfl, by decide +kernel, rfl, by decide +kernel, by decide +kernel⟩
theorem bo20 : BindOk D20 := fun _ _ _ _ _ _ us hl => match us, hl with | [_], _ => rfl
theorem sc21 : FnScope N21 P21 (defScope (sub (top 27) 7)) := ⟨rfl, rfl, rfl, by decide +kernel, rfl, by decide +kernel, by decide +kernel⟩
theorem bo21 : BindOk D21 := fun _ _ _ _ _ _ us hl => match us, hl with | [_, _], _ => rfl
theorem sc22 : FnScope N22 P22 (defScope (sub (top 27) 8)) := ⟨rfl, rfl, rfl, by decide +kernel, rfl, by decide +kernel, by decide +kernel⟩
theorem bo22 : BindOk D22 := fun _ _ _ _ _ _ us hl => match us, hl with | [_, _], _ => rfl
theorem sc23 : FnScope N23 P23 (defScope (sub (top 27) 9)) := ⟨rfl, rfl, rfl, by decide +kernel, rfl, by decide +kernel, by decide +kernel⟩
theorem bo23 : BindOk D23 := fun _ _ _ _ _ _ us hl => match us, hl with | [_, _], _ => rfl
theorem sc24 : FnScope N24 P24 (defScope (top 31)) := ⟨rfl, rfl, rfl, by decide +kernel, rfl, by decide +kernel, by decide +kernel⟩
theorem bo24 : BindOk D24 := fun _ _ _ _ _ _ us hl => match us, hl with | [_], _ => rfl
theorem sc25 : FnScope N25 P25 (defScope (top 32)) := ⟨rfl, rfl, rfl, by decide +kernel, rfl, by decide +kernel, by decide +kernel⟩
theorem bo25 : BindOk D25 := fun _ _ _ _ _ _ us hl => match us, hl with | [_], _ => rfl
theorem sc26 : FnScope N26 P26 (defScope (top 33)) := ⟨rfl, rfl, rfl, by decide +kernel, rfl, by decide +kernel, by decide +kernel⟩
theorem bo26 : BindOk D26 := fun _ _ _ _ _ _ us hl => match us, hl with | [_, _, _], _ => rfl
theorem sc27 : FnScope N27 P27 (defScope (top 34)) := ⟨rfl, rfl, rfl, by decide +kernel, rfl, by decide +kernel, by decide +kernel⟩
theorem bo27 : BindOk D27 := fun _ _ _ _ _ _ us hl => match us, hl with | [_, _, _], _ => rfl
theorem sc28 : FnScope N28 P28 (defScope (top 35)) := ⟨rfl, rfl, rfl, by decide +kernel, rfl, by decide +kernel, by decide +kernel⟩
theorem bo28 : BindOk D28 := fun _ _ _ _ _ _ us hl => match us, hl with | [_, _], _ => rfl
theorem sc29 : FnScope N29 P29 (defScope (top 36)) := ⟨rfl, rfl, rfl, by decide +kernel, rfl, by decide +kernel, by decide +kernel⟩
theorem bo29 : BindOk D29 := fun _ _ _ _ _ _ us hl => match us, hl with | [_, _], _ => rfl
theorem sc30 : FnScope N30 P30 (defScope (top 37)) := ⟨rfl, rfl, rfl, by decide +kernel, rfl, by decide +kernel, by decide +kernel⟩
theorem bo30 : BindOk D30 := fun _ _ _ _ _ _ us hl => match us, hl with | [_, _], _ => rfl
theorem sc31 : FnScope N31 P31 (defScope (top 40)) := ⟨rfl, rfl, rfl, by decide +kernel, rfl, by decide +kernel, by decide +kernel⟩
theorem bo31 : BindOk D31 := fun _ _ _ _ _ _ us hl => match us, hl with | [_, _], _ => rfl
theorem sc32 : FnScope N32 P32 (defScope (top 41)) := ⟨rfl, rfl, rfl, by decide +kernel, rfl, by decide +kernel, by decide +kernel⟩
theorem bo32 : BindOk D32 := fun _ _ _ _ _ _ us hl => match us, hl with | [_, _], _ => rfl
theorem sc33 : FnScope N33 P33 (defScope (top 42)) := ⟨rfl, rfl, rfl, by decide +kernel, rfl, by decide +kernel, by decide +kernel⟩
theorem bo33 : BindOk D33 := fun _ _ _ _ _ _ us hl => match us, hl with | [_, _], _ => rfl
theorem sc34 : FnScope N34 P34 (defScope (top 44)) := ⟨rfl, rfl, rfl, by decide +kernel, rfl, by decide +kernel, by decide +kernel⟩
theorem bo34 : BindOk D34 := fun _ _ _ _ _ _ us hl => match us, hl with | [_, _], _ => rfl
theorem sc35 : FnScope N35 P35 (defScope (top 45)) := ⟨rfl, rfl, rfl, by decide +kernel, rfl, by decide +kernel, by decide +kernel⟩
theorem bo35 : BindOk D35 := fun _ _ _ _ _ _ us hl => match us, hl with | [_, _], _ => rfl
theorem sc36 : FnScope N36 P36 (defScope (top 46)) := ⟨rfl, rfl, rfl, by decide +kernel, rfl, by decide +kernel, by decide +kernel⟩
theorem bo36 : BindOk D36 := fun _ _ _ _ _ _ us hl => match us, hl with | [_], _ => rfl
theorem sc37 : FnScope N37 P37 (defScope (top 47)) := ⟨rfl, rfl, rfl, by decide +kernel, rfl, by decide +kernel, by decide +kernel⟩
theorem bo37 : BindOk D37 := fun _ _ _ _ _ _ us hl => match us, hl with | [_], _ => rfl
theorem sc38 : FnScope N38 P38 (defScope (top 48)) := ⟨rfl, rfl, rfl, by decide +kernel, rfl, by decide +kernel, by decide +kernel⟩
theorem bo38 : BindOk D38 := fun _ _ _ _ _ _ us hl => match us, hl with | [_, _], _ => rfl
theorem sc39 : FnScope N39 P39 (defScope (top 49)) := ⟨rfl, rfl, rfl, by decide +kernel, rfl, by decide +kernel, by decide +kernel⟩
theorem bo39 : BindOk D39 := fun _ _ _ _ _ _ us hl => match us, hl with | [_, _], _ => rfl
theorem sc40 : FnScope N40 P40 (defScope (top 50)) := ⟨rfl, rfl, rfl, by decide +kernel, rfl, by decide +kernel, by decide +kernel⟩
theorem bo40 : BindOk D40 := fun _ _ _ _ _ _ us hl => match us, hl with | [_], _ => rfl
theorem sc41 : FnScope N41 P41 (defScope (top 51)) := ⟨rfl, rfl, rfl, by decide +kernel, rfl, by decide +kernel, by decide +kernel⟩
theorem bo41 : BindOk D41 := fun _ _ _ _ _ _ us hl => match us, hl with | [_, _], _ => rfl
theorem sc42 : FnScope N42 P42 (defScope (top 52)) := ⟨rfl, rfl, rfl, by decide +kernel, rfl, by decide +kernel, by decide +kernel⟩
theorem bo42 : BindOk D42 := fun _ _ _ _ _ _ us hl => match us, hl with | [_], _ => rfl
theorem bos : ∀ d ∈ dfs, BindOk d := List.forall_mem_cons.mpr ⟨bo0, List.forall_mem_cons.mpr ⟨bo1, List.forall_mem_cons.mpr ⟨bo2, List.forall_mem_cons.mpr ⟨bo3, List.forall_mem_cons.mpr ⟨bo4, List.forall_mem_cons.mpr ⟨bo5, List.forall_mem_cons.mpr ⟨bo6, List.forall_mem_cons.mpr ⟨bo7, List.forall_mem_cons.mpr ⟨bo8, List.forall_mem_cons.mpr ⟨bo9, List.forall_mem_cons.mpr ⟨bo10, List.forall_mem_cons.mpr ⟨bo11, List.forall_mem_cons.mpr ⟨bo12, List.forall_mem_cons.mpr ⟨bo13, List.forall_mem_cons.mpr ⟨bo14, List.forall_mem_cons.mpr ⟨bo15, List.forall_mem_cons.mpr ⟨bo16, List.forall_mem_cons.mpr ⟨bo17, List.forall_mem_cons.mpr ⟨bo18, List.forall_mem_cons.mpr ⟨bo19, List.forall_mem_cons.mpr ⟨bo20, List.forall_mem_cons.mpr ⟨bo21, List.forall_mem_cons.mpr ⟨bo22, List.forall_mem_cons.mpr ⟨bo23, List.forall_mem_cons.mpr ⟨bo24, List.forall_mem_cons.mpr ⟨bo25, List.forall_mem_cons.mpr ⟨bo26, List.forall_mem_cons.mpr ⟨bo27, List.forall_mem_cons.mpr ⟨bo28, List.forall_mem_cons.mpr ⟨bo29, List.forall_mem_cons.mpr ⟨bo30, List.forall_mem_cons.mpr ⟨bo31, List.forall_mem_cons.mpr ⟨bo32, List.forall_mem_cons.mpr ⟨bo33, List.forall_mem_cons.mpr ⟨bo34, List.forall_mem_cons.mpr ⟨bo35, List.forall_mem_cons.mpr ⟨bo36, List.forall_mem_cons.mpr ⟨bo37, List.forall_mem_cons.mpr ⟨bo38, List.forall_mem_cons.mpr ⟨bo39, List.forall_mem_cons.mpr ⟨bo40, List.forall_mem_cons.mpr ⟨bo41, List.forall_mem_cons.mpr ⟨bo42, (fun _ h => nomatch h)⟩⟩⟩⟩⟩⟩⟩⟩⟩⟩⟩⟩⟩⟩⟩⟩⟩⟩⟩⟩⟩⟩⟩⟩⟩⟩⟩⟩⟩⟩⟩⟩⟩⟩⟩⟩⟩⟩⟩⟩⟩⟩⟩
def okD (d : Df) : Prop := FnScope d.N d.ps d.scope ∧ ∀ (G : Gm) (W : WX) (F : Fns) (X : Cx), F.ini = tb.ini → XOk T G W F d.N d.scope X → PassesOwn (model X.prog X.w) X.A X.env X.xe → (∀ x, X.fn x = true) → PSs X d.body (tSs G W F d.b)
theorem oks : ∀ d ∈ dfs, okD d := List.forall_mem_cons.mpr ⟨⟨sc0, fun _ _ _ _ z a b c => w0 z a b c⟩, List.forall_mem_cons.mpr ⟨⟨sc1, fun _ _ _ _ z a b c => w1 z a b c⟩, List.forall_mem_cons.mpr ⟨⟨sc2, fun _ _ _ _ z a b c => w2 z a b c⟩, List.forall_mem_cons.mpr ⟨⟨sc3, fun _ _ _ _ z a b c => w3 z a b c⟩, List.forall_mem_cons.mpr ⟨⟨sc4, fun _ _ _ _ z a b c => w4 z a b c⟩, List.forall_mem_cons.mpr ⟨⟨sc5, fun _ _ _ _ z a b c => w5 z a b c⟩, List.forall_mem_cons.mpr ⟨⟨sc6, fun _ _ _ _ z a b c => w6 z a b c⟩, List.forall_mem_cons.mpr ⟨⟨sc7, fun _ _ _ _ z a b c => w7 z a b c⟩, List.forall_mem_cons.mpr ⟨⟨sc8, fun _ _ _ _ z a b c => w8 z a b c⟩, List.forall_mem_cons.mpr ⟨⟨sc9, fun _ _ _ _ z a b c => w9 z a b c⟩, List.forall_mem_cons.mpr ⟨⟨sc10, fun _ _ _ _ z a b c => w10 z a b c⟩, List.forall_mem_cons.mpr ⟨⟨sc11, fun _ _ _ _ z a b c => w11 z a b c⟩, List.forall_mem_cons.mpr ⟨⟨sc12, fun _ _ _ _ z a b c => w12 z a b c⟩, List.forall_mem_cons.mpr ⟨⟨sc13, fun _ _ _ _ z a b c => w13 z a b c⟩, List.forall_mem_cons.mpr ⟨⟨sc14, fun _ _ _ _ z a b c => w14 z a b c⟩, List.forall_mem_cons.mpr ⟨⟨sc15, fun _ _ _ _ z a b c => w15 z a b c⟩, List.forall_mem_cons.mpr ⟨⟨sc16, fun _ _ _ _ z a b c => w16 z a b c⟩, List.forall_mem_cons.mpr ⟨⟨sc17, fun _ _ _ _ z a b c => w17 z a b c⟩, List.forall_mem_cons.mpr ⟨⟨sc18, fun _ _ _ _ z a b c => w18 z a b c⟩, List.forall_mem_cons.mpr ⟨⟨sc19, fun _ _ _ _ z a b c => w19 z a b c⟩, List.forall_mem_cons.mpr ⟨⟨sc20, fun _ _ _ _ z a b c => w20 z a b c⟩, List.forall_mem_cons.mpr ⟨⟨sc21, fun _ _ _ _ z a b c => w21 z a b c⟩, List.forall_mem_cons.mpr ⟨⟨sc22, fun _ _ _ _ z a b c => w22 z a b c⟩, List.forall_mem_cons.mpr ⟨⟨sc23, fun _ _ _ _ z a b c => w23 z a b c⟩, List.forall_mem_cons.mpr ⟨⟨sc24, fun _ _ _ _ z a b c => w24 z a b c⟩, List.forall_mem_cons.mpr ⟨⟨sc25, fun _ _ _ _ z a b c => w25 z a b c⟩, List.forall_mem_cons.mpr ⟨⟨sc26, fun _ _ _ _ z a b c => w26 z a b c⟩, List.forall_mem_cons.mpr ⟨⟨sc27, fun _ _ _ _ z a b c => w27 z a b c⟩, List.forall_mem_cons.mpr ⟨⟨sc28, fun _ _ _ _ z a b c => w28 z a b c⟩, List.forall_mem_cons.mpr ⟨⟨sc29, fun _ _ _ _ z a b c => w29 z a b c⟩, List.forall_mem_cons.mpr ⟨⟨sc30, fun _ _ _ _ z a b c => w30 z a b c⟩, List.forall_mem_cons.mpr ⟨⟨sc31, fun _ _ _ _ z a b c => w31 z a b c⟩, List.forall_mem_cons.mpr ⟨⟨sc32, fun _ _ _ _ z a b c => w32 z a b c⟩, List.forall_mem_cons.mpr ⟨⟨sc33, fun _ _ _ _ z a b c => w33 z a b c⟩, List.forall_mem_cons.mpr ⟨⟨sc34, fun _ _ _ _ z a b c => w34 z a b c⟩, List.forall_mem_cons.mpr ⟨⟨sc35, fun _ _ _ _ z a b c => w35 z a b c⟩, List.forall_mem_cons.mpr ⟨⟨sc36, fun _ _ _ _ z a b c => w36 z a b c⟩, List.forall_mem_cons.mpr ⟨⟨sc37, fun _ _ _ _ z a b c => w37 z a b c⟩, List.forall_mem_cons.mpr ⟨⟨sc38, fun _ _ _ _ z a b c => w38 z a b c⟩, List.forall_mem_cons.mpr ⟨⟨sc39, fun _ _ _ _ z a b c => w39 z a b c⟩, List.forall_mem_cons.mpr ⟨⟨sc40, fun _ _ _ _ z a b c => w40 z a b c⟩, List.forall_mem_cons.mpr ⟨⟨sc41, fun _ _ _ _ z a b c => w41 z a b c⟩, List.forall_mem_cons.mpr ⟨⟨sc42, fun _ _ _ _ z a b c => w42 z a b c⟩, (fun _ h => nomatch h)⟩⟩⟩⟩⟩⟩⟩⟩⟩⟩⟩⟩⟩⟩⟩⟩⟩⟩⟩⟩⟩⟩⟩⟩⟩⟩⟩⟩⟩⟩⟩⟩⟩⟩⟩⟩⟩⟩⟩⟩⟩⟩⟩
theorem dok : DfsOk T tb dfs := ⟨fun k d h => (oks d (List.mem_of_getElem? h)).1, fun k d h => (oks d (List.mem_of_getElem? h)).2⟩
theorem tdc : tdC T dfs = true := by kernel_rfl
theorem fdse : tb = mkTb (dfs.map Df.fd) T.cl := rfl
def fn : List He.DefD := dfs.map dOf
def fa : List He.Fa := faOf T
def ts : List He.Tab := tsOf T
def ex : PySem.W.Frag → Bool := exOf T
abbrev R : PySem.W.OpenRow := PySem.W.OpenLaw.row PySem.Challenge.rw_partproof_k41_hits_misses_needs
abbrev hk : PySem.W.Hook := He.hookX 6 fa fn ts [] ex
def ob (s : PySem.W.SharedT) : He.AlX := He.obsX 6 fa fn ts [] ex (HandSHeadRun.getT s)
theorem ob_eq (s : PySem.W.SharedT) : ob s = hk.obs s.abs := He.obsX_eq (HandSHeadRun.getT_eq s)
theorem runW (b : Bool) (w : World) : HandSHeadRun.RunEq R (PySem.W.view R.prog [52]) hk ob 20000 ("_wall" :: "is_read_of_put" :: "hit" :: "miss" :: "need" :: "PartError" :: "BadNames" :: "BadTerm" :: "BadStatement" :: "is_whole" :: "common" :: "is_fraction" :: "LETTERS" :: "MOST_LETTERS" :: "MOST_STRETCH" :: "MOST_VALUES" :: "MOST_KINDS" :: "is_name" :: "is_stretch" :: "is_kind" :: "is_function" :: "checked_list" :: "values_together" :: "Names" :: "DEEPEST" :: "LENGTHS" :: "may_hold" :: "is_too_deep" :: "check_kind" :: "kind_of_call" :: "kind_of_unknown" :: "kind_of" :: "kind_within" :: "ATOMS" :: "check_atom" :: "check_statement" :: "check_within" :: "_law_cell_at" :: "_law_stream" :: "_law_draw" :: "_law_fraction" :: "_law_term" :: "_law_array" :: "_law_read" :: "_law_is" :: []) (w.withFollow "special-get-raises" b) := by
  cases b
  · intro os; kernel_rfl
  · intro os; kernel_rfl
theorem run (w : World) : HandSHeadRun.RunEq R (PySem.W.view R.prog [52]) hk ob 20000 ("_wall" :: "is_read_of_put" :: "hit" :: "miss" :: "need" :: "PartError" :: "BadNames" :: "BadTerm" :: "BadStatement" :: "is_whole" :: "common" :: "is_fraction" :: "LETTERS" :: "MOST_LETTERS" :: "MOST_STRETCH" :: "MOST_VALUES" :: "MOST_KINDS" :: "is_name" :: "is_stretch" :: "is_kind" :: "is_function" :: "checked_list" :: "values_together" :: "Names" :: "DEEPEST" :: "LENGTHS" :: "may_hold" :: "is_too_deep" :: "check_kind" :: "kind_of_call" :: "kind_of_unknown" :: "kind_of" :: "kind_within" :: "ATOMS" :: "check_atom" :: "check_statement" :: "check_within" :: "_law_cell_at" :: "_law_stream" :: "_law_draw" :: "_law_fraction" :: "_law_term" :: "_law_array" :: "_law_read" :: "_law_is" :: []) w :=
  PySem.W.byRow2 "special-get-raises" (P := fun w => HandSHeadRun.RunEq R (PySem.W.view R.prog [52]) hk ob 20000 ("_wall" :: "is_read_of_put" :: "hit" :: "miss" :: "need" :: "PartError" :: "BadNames" :: "BadTerm" :: "BadStatement" :: "is_whole" :: "common" :: "is_fraction" :: "LETTERS" :: "MOST_LETTERS" :: "MOST_STRETCH" :: "MOST_VALUES" :: "MOST_KINDS" :: "is_name" :: "is_stretch" :: "is_kind" :: "is_function" :: "checked_list" :: "values_together" :: "Names" :: "DEEPEST" :: "LENGTHS" :: "may_hold" :: "is_too_deep" :: "check_kind" :: "kind_of_call" :: "kind_of_unknown" :: "kind_of" :: "kind_within" :: "ATOMS" :: "check_atom" :: "check_statement" :: "check_within" :: "_law_cell_at" :: "_law_stream" :: "_law_draw" :: "_law_fraction" :: "_law_term" :: "_law_array" :: "_law_read" :: "_law_is" :: []) w) (runW false) (runW true) w
end Q41
open PySem PySem.W PySem.Calls PyProof.Rows
theorem PySem.Challenge.cw_partproof_k41_hits_misses_needs_holds : PySem.Challenge.rw_partproof_k41_hits_misses_needs.Holds := by
  w_on; o_law
  refine HandSHeadRun.head_any (r := OpenLaw.row PySem.Challenge.rw_partproof_k41_hits_misses_needs) (q := view (OpenLaw.row PySem.Challenge.rw_partproof_k41_hits_misses_needs).prog [52]) (H := Q41.hk) (ob := Q41.ob) (M := 20000) (loose := ("_wall" :: "is_read_of_put" :: "hit" :: "miss" :: "need" :: "PartError" :: "BadNames" :: "BadTerm" :: "BadStatement" :: "is_whole" :: "common" :: "is_fraction" :: "LETTERS" :: "MOST_LETTERS" :: "MOST_STRETCH" :: "MOST_VALUES" :: "MOST_KINDS" :: "is_name" :: "is_stretch" :: "is_kind" :: "is_function" :: "checked_list" :: "values_together" :: "Names" :: "DEEPEST" :: "LENGTHS" :: "may_hold" :: "is_too_deep" :: "check_kind" :: "kind_of_call" :: "kind_of_unknown" :: "kind_of" :: "kind_within" :: "ATOMS" :: "check_atom" :: "check_statement" :: "check_within" :: "_law_cell_at" :: "_law_stream" :: "_law_draw" :: "_law_fraction" :: "_law_term" :: "_law_array" :: "_law_read" :: "_law_is" :: [])) (d := HandSHeadRun.topDef (OpenLaw.row PySem.Challenge.rw_partproof_k41_hits_misses_needs).prog 52) (kwd := []) Q41.ob_eq
    (by kernel_rfl) (fun s => by kernel_rfl) Q41.run (by kernel_rfl) (by kernel_rfl) (by kernel_rfl) (by rfl) (by first | assumption | decide +kernel) (by decide +kernel) ⟨rfl, rfl, rfl, rfl, rfl, by decide +kernel⟩ ?hw ?hc
  case hw => w_witness2
  case hc =>
    refine Mp.law_walk (l := PySem.Challenge.rw_partproof_k41_hits_misses_needs) (n := 63) (k := 2 * Q41.levels) (x := "_law_script") rfl (by decide) (by kernel_rfl) ⟨rfl, by decide, by decide⟩ ?F
    intro w mg fa h Y G hmg0
    obtain ⟨K, KX, c⟩ := Y
    have hmg : mg ("law" : PySem.Str) = some (.ref fa) := by
      have e : (HandSHeadRun.topDef (OpenLaw.row PySem.Challenge.rw_partproof_k41_hits_misses_needs).prog 52).name = ("law" : PySem.Str) := by kernel_rfl
      rw [← e]
      exact hmg0
    obtain ⟨fd, sp, hF⟩ := Mp.law_facts (P := (PySem.Challenge.rw_partproof_k41_hits_misses_needs).prog) (w := w) (T := Q41.T) (dfs := Q41.dfs) (Tb := Q41.tb) (kl := 42) (n := Q41.levels) (d := Q41.D42) (x := "_law_script") c KX G Q41.tdc Q41.bos Q41.dok Q41.fdse rfl rfl (by kernel_rfl) hmg Q41.law_ok
    exact ⟨K, fd, sp, KX, hF⟩

