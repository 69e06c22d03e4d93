import PyProof.Rows.All
import Wide.All
import OpenK.AllK
import Wide.FinOn
import KE.KStateDown
import HandS.ForMost
import HandS.ForExc
import HandS.TryMany
import HandS.More
import HandS.Defaults
import HandS.Deep
import HandS.TupAny
import HandS.TupMul
import HandS.TupLe
import HandS.DictComp
import HandS.SortInts
import HandS.Small
import HandS.Style
import HandS.Flow
import HandS.IsInst
import HandS.Conv
import HandS.Zip
import HandS.CallSlots
import HandS.Head0
import HandS.Head1
import HandS.Head2
import HandS.HeadEnd
import HandS.HeadHook1
import HandS.HeadHook2
import KE.KDictKeyed
import KE.SortKeyed
import KE.DataCmp
import KE.GoesMore
import HandS.SortKw
import KE.DatumOrd
import HandS.SetFor
import HandS.TupSets
import HandS.Strs
import PySem.Challenge.RW_mindsrevised_k66_whole_keeping_up_with_c
set_option Elab.async false
set_option linter.all false
set_option maxRecDepth 100000
/-! PI, part A: a pure interpreter of a small Python: data, store, expressions and statements by slots; the translator from PySem's trees. -/
namespace PI
open PySem L2
/-! ### data -/
inductive D where
  | non | bl (b : Bool) | int (i : Int) | str (s : Str)
  | tup (l : List D) | lst (l : List D) | dct (ks vs : List D) | ref (n : Nat)
  /-- the script, locked -/
  | scr (ns : List Int)
  deriving Inhabited
mutual
def D.dec : (a b : D) → Decidable (a = b)
  | .non, b => by cases b <;> first | exact Decidable.isTrue rfl | exact Decidable.isFalse (fun h => nomatch h)
  | .bl x, b => by
    cases b with
    | bl y => exact if h : x = y then Decidable.isTrue (by rw [h]) else Decidable.isFalse (fun e => h (D.bl.inj e))
    | _ => exact Decidable.isFalse (fun h => nomatch h)
  | .int x, b => by
    cases b with
    | int y => exact if h : x = y then Decidable.isTrue (by rw [h]) else Decidable.isFalse (fun e => h (D.int.inj e))
    | _ => exact Decidable.isFalse (fun h => nomatch h)
  | .str x, b => by
    cases b with
    | str y => exact if h : x = y then Decidable.isTrue (by rw [h]) else Decidable.isFalse (fun e => h (D.str.inj e))
    | _ => exact Decidable.isFalse (fun h => nomatch h)
  | .ref x, b => by
    cases b with
    | ref y => exact if h : x = y then Decidable.isTrue (by rw [h]) else Decidable.isFalse (fun e => h (D.ref.inj e))
    | _ => exact Decidable.isFalse (fun h => nomatch h)
  | .scr x, b => by
    cases b with
    | scr y => exact if h : x = y then Decidable.isTrue (by rw [h]) else Decidable.isFalse (fun e => h (D.scr.inj e))
    | _ => exact Decidable.isFalse (fun h => nomatch h)
  | .tup x, b => by
    cases b with
    | tup y => exact match D.decL x y with
      | Decidable.isTrue h => Decidable.isTrue (by rw [h])
      | Decidable.isFalse h => Decidable.isFalse (fun e => h (D.tup.inj e))
    | _ => exact Decidable.isFalse (fun h => nomatch h)
  | .lst x, b => by
    cases b with
    | lst y => exact match D.decL x y with
      | Decidable.isTrue h => Decidable.isTrue (by rw [h])
      | Decidable.isFalse h => Decidable.isFalse (fun e => h (D.lst.inj e))
    | _ => exact Decidable.isFalse (fun h => nomatch h)
  | .dct x u, b => by
    cases b with
    | dct y v => exact match D.decL x y, D.decL u v with
      | Decidable.isTrue h, Decidable.isTrue g => Decidable.isTrue (by rw [h, g])
      | Decidable.isFalse h, _ => Decidable.isFalse (fun e => h (D.dct.inj e).1)
      | _, Decidable.isFalse h => Decidable.isFalse (fun e => h (D.dct.inj e).2)
    | _ => exact Decidable.isFalse (fun h => nomatch h)
def D.decL : (a b : List D) → Decidable (a = b)
  | [], [] => Decidable.isTrue rfl
  | [], _ :: _ => Decidable.isFalse (fun h => nomatch h)
  | _ :: _, [] => Decidable.isFalse (fun h => nomatch h)
  | x :: r, y :: s => match D.dec x y, D.decL r s with
    | Decidable.isTrue h, Decidable.isTrue g => Decidable.isTrue (by rw [h, g])
    | Decidable.isFalse h, _ => Decidable.isFalse (fun e => h (List.cons.inj e).1)
    | _, Decidable.isFalse h => Decidable.isFalse (fun e => h (List.cons.inj e).2)
end
instance : DecidableEq D := D.dec
/-- a bool as a number -/
def b2i (b : Bool) : Int := if b = true then 1 else 0
mutual
/-- Python's == on plain data -/
def D.eqv : D → D → Bool
  | .non, .non => true
  | .bl a, .bl b => a == b
  | .bl a, .int j => b2i a == j
  | .int i, .bl b => i == b2i b
  | .int i, .int j => i == j
  | .str a, .str b => decide (a = b)
  | .tup a, .tup b => D.eqvL a b
  | .lst a, .lst b => D.eqvL a b
  | _, _ => false
def D.eqvL : List D → List D → Bool
  | [], [] => true
  | x :: r, y :: s => D.eqv x y && D.eqvL r s
  | _, _ => false
end
mutual
/-- nothing but None, flags, numbers, texts, tuples and lists of such, at most so deep -/
def D.fitN : D → Nat → Bool
  | .non, _ => true
  | .bl _, _ => true
  | .int _, _ => true
  | .str s, _ => PyData.strOk s
  | .tup l, n => (match n with
    | 0 => false
    | n + 1 => D.fitL l n)
  | .lst l, n => (match n with
    | 0 => false
    | n + 1 => D.fitL l n)
  | _, _ => false
def D.fitL : List D → Nat → Bool
  | [], _ => true
  | d :: r, n => D.fitN d n && D.fitL r n
end
def D.plain (d : D) : Bool := D.fitN d 50
def D.plainL (l : List D) : Bool := D.fitL l 49
mutual
/-- Python's < where it has an answer -/
def D.lt? : D → D → Option Bool
  | .bl a, .bl b => some (decide (b2i a < b2i b))
  | .bl a, .int j => some (decide (b2i a < j))
  | .int i, .bl b => some (decide (i < b2i b))
  | .int i, .int j => some (decide (i < j))
  | .str a, .str b => some (decide (a.cps.toList < b.cps.toList))
  | .tup a, .tup b => D.ltL? a b
  | .lst a, .lst b => D.ltL? a b
  | _, _ => none
def D.ltL? : List D → List D → Option Bool
  | [], [] => some false
  | [], _ :: _ => some true
  | _ :: _, [] => some false
  | x :: r, y :: s => if D.eqv x y = true then D.ltL? r s else D.lt? x y
end
/-! ### the store, results -/
inductive O where
  | lst (l : List D) | dct (ks vs : List D)
  deriving Inhabited, DecidableEq
abbrev Store := List O
inductive Res (α : Type) where
  | ok (a : α) (st : Store)
  | err (c : Str) (as : List D) (st : Store)
  | bad
def M (α : Type) : Type := Store → Res α
def M.bind {α β : Type} (x : M α) (f : α → M β) : M β := fun st => match x st with
  | .ok a st' => f a st'
  | .err c as st' => .err c as st'
  | .bad => .bad
def M.pure {α : Type} (a : α) : M α := fun st => .ok a st
instance : Monad M where
  pure := M.pure
  bind := M.bind
def mbad {α : Type} : M α := fun _ => .bad
def mof {α : Type} : Option α → M α
  | some a => M.pure a
  | none => mbad
def mget : M Store := fun st => .ok st st
def mif (b : Bool) : M Unit := if b = true then M.pure () else mbad
@[simp] theorem pure_def {α : Type} (a : α) (st : Store) : (pure a : M α) st = .ok a st := rfl
@[simp] theorem mpure_def {α : Type} (a : α) (st : Store) : (M.pure a : M α) st = .ok a st := rfl
theorem bind_def {α β : Type} (x : M α) (f : α → M β) (st : Store) : (x >>= f) st = match x st with
  | .ok a st' => f a st'
  | .err c as st' => .err c as st'
  | .bad => .bad := rfl
theorem bind_ok {α β : Type} {x : M α} {f : α → M β} {st st' : Store} {a : α} (h : x st = .ok a st') : (x >>= f) st = f a st' := by rw [bind_def, h]
@[simp] theorem mbad_def {α : Type} (st : Store) : (mbad : M α) st = .bad := rfl
/-- a new list: frozen, or at a new place of the store -/
def newL (m : Bool) (l : List D) : M D := fun st => if l.length ≤ sizeLine then (if m = true then .ok (.ref st.length) (st ++ [.lst l]) else .ok (.lst l) st) else .bad
def newT (l : List D) : M D := fun st => if l.length ≤ sizeLine then .ok (.tup l) st else .bad
/-- the items of a list -/
def asL (d : D) : M (List D) := fun st => match d with
  | .lst l => .ok l st
  | .ref n => (match st[n]? with
    | some (.lst l) => .ok l st
    | _ => .bad)
  | _ => .bad
/-- of a list or a tuple -/
def asS (d : D) : M (List D) := fun st => match d with
  | .tup l => .ok l st
  | .lst l => .ok l st
  | .ref n => (match st[n]? with
    | some (.lst l) => .ok l st
    | _ => .bad)
  | _ => .bad
def asI : D → M Int
  | .int i => M.pure i
  | _ => mbad
def toInts : List D → Option (List Int)
  | [] => some []
  | .int i :: r => (toInts r).map (i :: ·)
  | _ :: _ => none
def toBools : List D → Option (List Bool)
  | [] => some []
  | .bl i :: r => (toBools r).map (i :: ·)
  | _ :: _ => none
/-- the thing itself with what stands in the store put in its place (one level) -/
def deref (d : D) : M D := fun st => match d with
  | .ref n => (match st[n]? with
    | some (.lst l) => .ok (.lst l) st
    | some (.dct k v) => .ok (.dct k v) st
    | none => .bad)
  | d => .ok d st
/-! ### operators -/
inductive Op2 where | add | sub | mul | fdiv | mod | pow | shl | shr | and | or | xor
  deriving DecidableEq, Inhabited
inductive Op1 where | neg | inv
  deriving DecidableEq, Inhabited
inductive Cm where | eq | ne | lt | le | gt | ge | inn | nin
  deriving DecidableEq, Inhabited
def small64 (i : Int) : Bool := decide (-(2 ^ 64) < i ∧ i < 2 ^ 64)
def repL (l : List D) (k : Int) : List D := (List.replicate k.toNat l).flatten
def op2 (m : Bool) (op : Op2) (a b : D) : M D := match op with
  | .add => (match a, b with
    | .int i, .int j => M.pure (.int (i + j))
    | .str x, .str y => fun st => if x.length + y.length ≤ sizeLine then .ok (.str (x ++ y)) st else .bad
    | .tup x, .tup y => fun st => if x.length ≤ sizeLine ∧ y.length ≤ sizeLine ∧ x.length + y.length ≤ sizeLine then .ok (.tup (x ++ y)) st else .bad
    | .tup _, _ => mbad
    | a, b => do
      let x ← asL a
      let y ← asL b
      newL m (x ++ y))
  | .sub => (match a, b with
    | .int i, .int j => M.pure (.int (i - j))
    | _, _ => mbad)
  | .mul => (match a, b with
    | .int i, .int j => if small64 i = true ∨ small64 j = true then M.pure (.int (i * j)) else mbad
    | .tup x, .int k => fun st => if x ≠ [] ∧ 1 ≤ k ∧ k ≤ 1000 ∧ x.length ≤ 1000 then .ok (.tup (repL x k)) st else .bad
    | a, .int k => do
      let x ← asL a
      if -(2 ^ 63) ≤ k ∧ k < 2 ^ 63 ∧ x.length * k.toNat ≤ sizeLine then newL m (repL x k) else mbad
    | _, _ => mbad)
  | .fdiv => (match a, b with
    | .int i, .int j => if 0 < j ∧ j < 1073741824 then M.pure (.int (i / j)) else mbad
    | _, _ => mbad)
  | .mod => (match a, b with
    | .int i, .int j => if 0 < j then M.pure (.int (i % j)) else mbad
    | _, _ => mbad)
  | .pow => (match a, b with
    | .int i, .int j => if 0 ≤ j ∧ j ≤ 1000000 ∧ i.natAbs < 2 ^ 64 then M.pure (.int (i ^ j.toNat)) else mbad
    | _, _ => mbad)
  | .shl => (match a, b with
    | .int i, .int j => if 0 ≤ j ∧ j ≤ 1000000 ∧ i.natAbs < 2 ^ 64 then M.pure (.int (i * 2 ^ j.toNat)) else mbad
    | _, _ => mbad)
  | .shr => (match a, b with
    | .int i, .int j => if 0 ≤ j then M.pure (.int (i / 2 ^ j.toNat)) else mbad
    | _, _ => mbad)
  | .and => (match a, b with
    | .int i, .int j => M.pure (.int (Builtin.bitAnd i j))
    | _, _ => mbad)
  | .or => (match a, b with
    | .int i, .int j => M.pure (.int (Builtin.bitOr i j))
    | _, _ => mbad)
  | .xor => (match a, b with
    | .int i, .int j => M.pure (.int (Builtin.bitXor i j))
    | _, _ => mbad)
def op1 (op : Op1) (a : D) : M D := match op with
  | .neg => (match a with
    | .int i => M.pure (.int (-i))
    | _ => mbad)
  | .inv => (match a with
    | .int i => M.pure (.int (Builtin.bitNot i))
    | _ => mbad)
/-- the place of a key -/
def keyAt (k : D) (ks : List D) : Option Nat := ks.findIdx? fun x => D.eqv x k
mutual
/-- a part of a key: no list in it, so deep at most -/
def D.keyN : D → Nat → Bool
  | .non, _ => true
  | .bl _, _ => true
  | .int _, _ => true
  | .str _, _ => true
  | .tup l, n => (match n with
    | 0 => false
    | n + 1 => D.keyL l n)
  | _, _ => false
def D.keyL : List D → Nat → Bool
  | [], _ => true
  | d :: r, n => D.keyN d n && D.keyL r n
end
/-- a key that is a number or a text -/
def D.isLeaf : D → Bool
  | .int _ => true
  | .str _ => true
  | _ => false
/-- a key that is a tuple -/
def D.isTK : D → Bool
  | .tup l => D.keyL l 7
  | _ => false
def okKeys (ks : List D) : Bool := ks.all D.isLeaf || ks.all D.isTK
/-- a key for a dict that has these -/
def famOk (k : D) (ks : List D) : Bool := (k.isLeaf && ks.all D.isLeaf) || (k.isTK && ks.all D.isTK)
/-- the keys and values of a dict -/
def asK (d : D) : M (List D × List D) := fun st => match d with
  | .dct k v => .ok (k, v) st
  | .ref n => (match st[n]? with
    | some (.dct k v) => .ok (k, v) st
    | _ => .bad)
  | _ => .bad
def memD (x : D) (l : List D) : Bool := l.any fun y => D.eqv y x
/-- x in d -/
def inD (x d : D) : M Bool := fun st => match d with
  | .tup l => if x.plain = true ∧ D.plainL l = true then .ok (memD x l) st else .bad
  | .lst l => if x.plain = true ∧ D.plainL l = true then .ok (memD x l) st else .bad
  | .dct k _ => if famOk x k = true then .ok (keyAt x k).isSome st else .bad
  | .ref n => (match st[n]? with
    | some (.lst l) => if x.plain = true ∧ D.plainL l = true then .ok (memD x l) st else .bad
    | some (.dct k _) => if famOk x k = true then .ok (keyAt x k).isSome st else .bad
    | none => .bad)
  | .str s => (match x with
    | .str y => .ok (!(Builtin.Str.occurrences s y 0 s.length 1).isEmpty) st
    | _ => .bad)
  | _ => .bad
def ltD (a b : D) : M Bool := match a, b with
  | .int i, .int j => M.pure (decide (i < j))
  | .str x, .str y => M.pure (decide (x.cps.toList < y.cps.toList))
  | .tup x, .tup y => (match toInts x, toInts y with
    | some _, some _ => mof (D.ltL? x y)
    | _, _ => mbad)
  | _, _ => mbad
def cmpD (op : Cm) (a b : D) : M Bool := match op with
  | .eq => do
    let x ← deref a
    let y ← deref b
    if x.plain = true ∧ y.plain = true then M.pure (D.eqv x y) else mbad
  | .ne => do
    let x ← deref a
    let y ← deref b
    if x.plain = true ∧ y.plain = true then M.pure (!D.eqv x y) else mbad
  | .lt => ltD a b
  | .le => (match a, b with
    | .int i, .int j => M.pure (decide (i ≤ j))
    | _, _ => mbad)
  | .gt => (match a, b with
    | .int i, .int j => M.pure (decide (j < i))
    | _, _ => mbad)
  | .ge => (match a, b with
    | .int i, .int j => M.pure (decide (j ≤ i))
    | _, _ => mbad)
  | .inn => inD a b
  | .nin => do
    let c ← inD a b
    M.pure (!c)
/-- the truth of a thing -/
def truth (d : D) : M Bool := match d with
  | .bl b => M.pure b
  | .int i => M.pure (i != 0)
  | .non => M.pure false
  | _ => mbad
/-- an item's place -/
def place (i : Int) (n : Nat) : Option Nat := L2.ixN n i
def getIx (a i : D) : M D := fun st => match a with
  | .tup l => (match i with
    | .int k => (match place k l.length with
      | some j => (match l[j]? with
        | some d => .ok d st
        | none => .bad)
      | none => .bad)
    | _ => .bad)
  | .lst l => (match i with
    | .int k => (match place k l.length with
      | some j => (match l[j]? with
        | some d => .ok d st
        | none => .bad)
      | none => .bad)
    | _ => .bad)
  | .dct ks vs => if famOk i ks = true then (match keyAt i ks with
    | some j => (match vs[j]? with
      | some d => .ok d st
      | none => .bad)
    | none => .bad) else .bad
  | .ref n => (match st[n]? with
    | some (.lst l) => (match i with
      | .int k => (match place k l.length with
        | some j => (match l[j]? with
          | some d => .ok d st
          | none => .bad)
        | none => .bad)
      | _ => .bad)
    | some (.dct ks vs) => if famOk i ks = true then (match keyAt i ks with
      | some j => (match vs[j]? with
        | some d => .ok d st
        | none => .bad)
      | none => .bad) else .bad
    | none => .bad)
  | _ => .bad
def putK (ks vs : List D) (k v : D) : List D × List D := match keyAt k ks with
  | some j => (ks, vs.set j v)
  | none => (ks ++ [k], vs ++ [v])
def setIx (a i v : D) : M Unit := fun st => match a with
  | .ref n => (match st[n]? with
    | some (.lst l) => (match i with
      | .int k => (match place k l.length with
        | some j => .ok () (st.set n (.lst (l.set j v)))
        | none => .bad)
      | _ => .bad)
    | some (.dct ks vs) => if famOk i ks = true ∧ ks.length < sizeLine then .ok () (st.set n (.dct (putK ks vs i v).1 (putK ks vs i v).2)) else .bad
    | none => .bad)
  | _ => .bad
/-! ### sorting, by < -/
mutual
/-- as the library's data -/
def py : D → PyData
  | .non => .none
  | .bl b => .bool b
  | .int i => .int i
  | .str s => .str s
  | .tup l => .tuple (pys l)
  | .lst l => .list (pys l)
  | .dct _ _ => .none
  | .ref _ => .none
  | .scr _ => .none
def pys : List D → List PyData
  | [] => []
  | d :: r => py d :: pys r
end
/-- stable -/
def sortD (l : List D) : List D := l.mergeSort (PySem.W.dataLe false py)
def D.sortable : D → Bool
  | .int _ => true
  | .bl _ => true
  | .str _ => true
  | .lst _ => true
  | _ => false
def D.fullT : D → Bool
  | .tup (_ :: _) => true
  | _ => false
/-- each two of them comparable -/
def sortOk (l : List D) : Bool := D.plainL l && (l.all fun a => l.all fun b => PySem.W.alike (py a) (py b)) && (l.all D.sortable || l.all D.fullT)
/-- each once -/
def dedup (l : List D) : List D := l.foldl (fun acc x => if memD x acc = true then acc else acc ++ [x]) []
/-- few numbers -/
def setI (l : List D) : Bool := (decide (l.length < 4000) && decide ((dedup l).length < 60)) && (toInts l).isSome
def D.tupI : D → Option (List Int)
  | .tup l => toInts l
  | _ => none
/-- few tuples of numbers from 0 on, so many each -/
def setT (l : List D) : Bool := decide (l.length < 60) && ((List.range 8).any fun n => l.all fun d => match d.tupI with
  | some ns => decide (ns.length = n + 1) && ns.all fun i => decide (0 ≤ i)
  | none => false)
def D.noTup : D → Bool
  | .tup _ => false
  | _ => true
/-- of a list, a tuple, a dict's keys -/
def asW (d : D) : M (List D) := fun st => match d with
  | .tup l => .ok l st
  | .lst l => .ok l st
  | .dct k _ => .ok k st
  | .ref n => (match st[n]? with
    | some (.lst l) => .ok l st
    | some (.dct k _) => .ok k st
    | none => .bad)
  | _ => .bad
/-! ### built-ins -/
inductive Bi where | len | abs | int | sum | min | max | all | any | sorted | tuple | list | dict | sortset | str
  deriving DecidableEq, Inhabited
def minI : List Int → Option Int
  | [] => none
  | i :: r => some (r.foldl (fun a b => if b < a then b else a) i)
def maxI : List Int → Option Int
  | [] => none
  | i :: r => some (r.foldl (fun a b => if b > a then b else a) i)
def bi (m : Bool) (f : Bi) (as : List D) : M D := match f, as with
  | .len, [d] => fun st => (match d with
    | .tup l => .ok (.int l.length) st
    | .lst l => .ok (.int l.length) st
    | .dct k _ => if k.all D.isLeaf = true then .ok (.int k.length) st else .bad
    | .str s => if s.length ≤ sizeLine then .ok (.int s.length) st else .bad
    | .ref n => (match st[n]? with
      | some (.lst l) => .ok (.int l.length) st
      | some (.dct k _) => if k.all D.isLeaf = true then .ok (.int k.length) st else .bad
      | none => .bad)
    | _ => .bad)
  | .abs, [.int i] => M.pure (.int (if i < 0 then -i else i))
  | .int, [.int i] => M.pure (.int i)
  | .int, [.bl b] => M.pure (.int (b2i b))
  | .sum, [d] => do
    let l ← asL d
    let ns ← mof (toInts l)
    M.pure (.int ns.sum)
  | .min, [.int i, .int j] => M.pure (.int (if j < i then j else i))
  | .max, [.int i, .int j] => M.pure (.int (if j > i then j else i))
  | .min, [d] => do
    let l ← asL d
    let ns ← mof (toInts l)
    let i ← mof (minI ns)
    M.pure (.int i)
  | .max, [d] => do
    let l ← asL d
    let ns ← mof (toInts l)
    let i ← mof (maxI ns)
    M.pure (.int i)
  | .all, [d] => do
    let l ← asL d
    let bs ← mof (toBools l)
    M.pure (.bl (bs.all id))
  | .any, [d] => do
    let l ← asL d
    let bs ← mof (toBools l)
    M.pure (.bl (bs.any id))
  | .tuple, [d] => do
    let l ← asS d
    newT l
  | .list, [d] => do
    let l ← asW d
    newL m l
  | .sorted, [d] => do
    let l ← asW d
    if sortOk l = true then newL m (sortD l) else mbad
  | .sortset, [d] => do
    let l ← asS d
    if setI l = true ∨ (setT l = true ∧ d.noTup = true) then newL m (sortD (dedup l)) else mbad
  | .dict, [d] => do
    let (ks, vs) ← asK d
    fun st => if m = true then .ok (.ref st.length) (st ++ [.dct ks vs]) else .ok (.dct ks vs) st
  | _, _ => mbad
/-! ### methods -/
inductive Mt where | append | extend | pop | index
  deriving DecidableEq, Inhabited
def meth (mt : Mt) (a : D) (as : List D) : M D := match mt, as with
  | .append, [d] => fun st => (match a with
    | .ref n => (match st[n]? with
      | some (.lst l) => if l.length < sizeLine then .ok .non (st.set n (.lst (l ++ [d]))) else .bad
      | _ => .bad)
    | _ => .bad)
  | .extend, [d] => fun st => (match a with
    | .ref n => (match st[n]? with
      | some (.lst l) => (match asL d st with
        | .ok r _ => if l.length + r.length ≤ sizeLine then .ok .non (st.set n (.lst (l ++ r))) else .bad
        | _ => .bad)
      | _ => .bad)
    | _ => .bad)
  | .pop, [] => fun st => (match a with
    | .ref n => (match st[n]? with
      | some (.lst l) => (match l[l.length - 1]? with
        | some d => .ok d (st.set n (.lst l.dropLast))
        | none => .bad)
      | _ => .bad)
    | _ => .bad)
  | .pop, [.int k] => fun st => (match a with
    | .ref n => (match st[n]? with
      | some (.lst l) => (match place k l.length with
        | some j => (match l[j]? with
          | some d => .ok d (st.set n (.lst (l.eraseIdx j)))
          | none => .bad)
        | none => .bad)
      | _ => .bad)
    | _ => .bad)
  | .index, [x] => do
    let l ← asL a
    if x.plain = true ∧ D.plainL l = true then (match l.findIdx? fun y => D.eqv y x with
      | some j => M.pure (.int j)
      | none => mbad) else mbad
  | _, _ => mbad
/-! ### slices -/
def cutD (l : List D) (lo hi : Option Int) : List D := (l.drop (HT.sIx l.length 0 lo)).take (HT.sIx l.length l.length hi - HT.sIx l.length 0 lo)
def slice (m : Bool) (a : D) (lo hi : Option Int) : M D := match a with
  | .tup l => M.pure (.tup (cutD l lo hi))
  | .scr l => newL m (cutD (l.map .int) lo hi)
  | a => do
    let l ← asL a
    newL m (cutD l lo hi)
def revD (m : Bool) (a : D) : M D := match a with
  | .tup _ => mbad
  | a => do
    let l ← asL a
    newL m l.reverse
/-! ### kinds -/
inductive Ty where | int | bool | str | tuple | list | dict
  deriving DecidableEq, Inhabited
def isTy (d : D) (t : Ty) : M Bool := do
  let d ← deref d
  M.pure (match d, t with
    | .int _, .int => true
    | .bl _, .int => true
    | .bl _, .bool => true
    | .str _, .str => true
    | .tup _, .tuple => true
    | .lst _, .list => true
    | .dct _ _, .dict => true
    | .scr _, .list => true
    | _, _ => false)
/-! ### frames -/
abbrev Env := List (Option D)
def wipeD (ρ : Env) : List Nat → Env
  | [] => ρ
  | v :: vs => (wipeD ρ vs).set v none
mutual
inductive T where
  | nm (i : Nat) | tp (ts : Ts)
inductive Ts where
  | nil | cons (t : T) (r : Ts)
end
instance : Inhabited T := ⟨.nm 0⟩
mutual
/-- a thing is bound to a target -/
def bindT : T → D → Env → Option Env
  | .nm i, d, ρ => some (ρ.set i (some d))
  | .tp ts, d, ρ => (match d with
    | .tup l => bindTs ts l ρ
    | _ => none)
def bindTs : Ts → List D → Env → Option Env
  | .nil, [], ρ => some ρ
  | .cons t r, d :: l, ρ => (match bindT t d ρ with
    | some ρ' => bindTs r l ρ'
    | none => none)
  | _, _, _ => none
end
/-- what a loop walks: things, and the objects of the store that must stand as they stood -/
structure Src where
  w : List (Nat × O)
  items : List D
  isL : Bool
/-- they stand as they stood -/
def Src.chk (s : Src) (st : Store) : Bool := s.w.all fun p => decide (st[p.1]? = some p.2)
def intsD (lo : Int) (n : Nat) : List D := (List.range n).map fun i => D.int (lo + (i : Nat))
def numbered : Nat → List D → List D
  | _, [] => []
  | i, d :: r => .tup [.int (i : Nat), d] :: numbered (i + 1) r
def zipD : List D → List D → List D
  | a :: r, b :: s => .tup [a, b] :: zipD r s
  | _, _ => []
def srcOf (d : D) : M Src := fun st => match d with
  | .tup l => .ok ⟨[], l, false⟩ st
  | .lst l => .ok ⟨[], l, true⟩ st
  | .ref n => (match st[n]? with
    | some (.lst l) => .ok ⟨[(n, .lst l)], l, true⟩ st
    | _ => .bad)
  | _ => .bad
def range3 (lo hi c : Int) : Option (List D) :=
  if c ≠ 0 ∧ c.natAbs < 1073741824 ∧ Builtin.Range.small lo hi c = true ∧ Builtin.Range.rangeSize lo hi c = ((Builtin.Range.rangeSize lo hi c).toNat : Int) then some ((List.range (Builtin.Range.rangeSize lo hi c).toNat).map fun i => D.int (lo + (i : Nat) * c)) else none
def rangeSrc (l : List D) : M Src := match l with
  | [.int j] => if -(2 ^ 62) ≤ j ∧ j < 2 ^ 62 then M.pure ⟨[], intsD 0 j.toNat, true⟩ else mbad
  | [.int i, .int j] => if -(2 ^ 62) ≤ i ∧ i < 2 ^ 62 ∧ -(2 ^ 62) ≤ j ∧ j < 2 ^ 62 then M.pure ⟨[], intsD i (j - i).toNat, true⟩ else mbad
  | [.int i, .int j, .int c] => (match range3 i j c with
    | some l => M.pure ⟨[], l, true⟩
    | none => mbad)
  | _ => mbad
def rangeE (l : List D) : M (List D) := match l with
  | [.int j] => if -(2 ^ 62) ≤ j ∧ j < 2 ^ 62 then M.pure (intsD 0 j.toNat) else mbad
  | [.int i, .int j] => if -(2 ^ 62) ≤ i ∧ i < 2 ^ 62 ∧ -(2 ^ 62) ≤ j ∧ j < 2 ^ 62 then M.pure (intsD i (j - i).toNat) else mbad
  | _ => mbad
def noErr {α : Type} (x : M α) : M α := fun st => match x st with
  | .ok a st' => .ok a st'
  | _ => .bad
def mchk (s : Src) : M Unit := fun st => if s.chk st = true then .ok () st else .bad
/-- the loop of a comprehension -/
def compL (f : D → M (Option D)) (src : Src) : List D → List D → M (List D)
  | [], acc => fun st => if src.chk st = true then .ok acc st else .bad
  | x :: r, acc => fun st => if src.chk st = true then (match f x st with
      | .ok none st' => compL f src r acc st'
      | .ok (some y) st' => if acc.length < sizeLine then compL f src r (acc ++ [y]) st' else .bad
      | _ => .bad) else .bad
/-- of a comprehension with two fors: the inner one gives a row -/
def compL2 (f : D → List D → M (List D)) (src : Src) : List D → List D → M (List D)
  | [], acc => fun st => if src.chk st = true then .ok acc st else .bad
  | x :: r, acc => fun st => if src.chk st = true then (match f x acc st with
      | .ok acc' st' => compL2 f src r acc' st'
      | _ => .bad) else .bad
/-- of a dict's -/
def compD (f : D → M (Option (D × D))) (src : Src) : List D → List D × List D → M (List D × List D)
  | [], acc => fun st => if src.chk st = true then .ok acc st else .bad
  | x :: r, acc => fun st => if src.chk st = true then (match f x st with
      | .ok none st' => compD f src r acc st'
      | .ok (some (k, v)) st' => if famOk k acc.1 = true ∧ acc.1.length < sizeLine then compD f src r (putK acc.1 acc.2 k v) st' else .bad
      | _ => .bad) else .bad
def newK (m : Bool) (ks vs : List D) : M D := fun st => if m = true then .ok (.ref st.length) (st ++ [.dct ks vs]) else .ok (.dct ks vs) st
/-! ### expressions -/
mutual
inductive E where
  | bad
  | c (d : D) | v (i : Nat) | tup (es : Es) | lst (m : Bool) (es : Es) | dct0 (m : Bool)
  | bin (m : Bool) (op : Op2) (a b : E) | un (op : Op1) (a : E)
  | cmp (op : Cm) (a b : E) | cmp2 (o1 o2 : Cm) (a b c : E) | isN (neg : Bool) (a : E) | isB (neg b : Bool) (a : E)
  | and (a b : E) | or (a b : E) | not (a : E) | ite (t a b : E)
  | ix (a i : E) | sl (m : Bool) (a : E) (lo hi : Eo) | rev (m : Bool) (a : E)
  | bi (m : Bool) (f : Bi) (es : Es) | isi (a : E) (t : Ty) | own (m : Bool) (f : Str) (es : Es)
  | comp (m : Bool) (elt : E) (vs : List Nat) (tg : T) (it : It) (c : Es)
  | comp2 (m : Bool) (elt : E) (vs vs1 : List Nat) (tg : T) (it : It) (c : Es) (tg1 : T) (it1 : It) (c1 : Es)
  | dcomp (m : Bool) (k x : E) (vs : List Nat) (tg : T) (it : It) (c : Es)
  | meth (mt : Mt) (a : E) (es : Es)
  | minD (a b : E)
  | rngE (t m : Bool) (es : Es)
inductive Es where
  | nil | cons (e : E) (r : Es)
inductive Eo where
  | none | some (e : E)
inductive It where
  | bad | seq (e : E) | rng (es : Es) | enum (e : E) | zip (a b : E)
end
instance : Inhabited E := ⟨.bad⟩
instance : Inhabited It := ⟨.bad⟩
/-- what calls mean -/
structure Cf where
  cl : Bool → Str → List D → M D
  sub : Str → Str → Option Bool
def andM (x y : M Bool) : M Bool := do
  let b ← x
  if b = true then y else M.pure false
def orM (x y : M Bool) : M Bool := do
  let b ← x
  if b = true then M.pure true else y
mutual
def evE (F : Cf) : E → Env → M D
  | .bad, _ => mbad
  | .c d, _ => M.pure d
  | .v i, ρ => (match ρ[i]? with
    | some (some d) => M.pure d
    | _ => mbad)
  | .tup es, ρ => do
    let l ← evEs F es ρ
    newT l
  | .lst m es, ρ => do
    let l ← evEs F es ρ
    newL m l
  | .dct0 m, _ => newK m [] []
  | .bin m op a b, ρ => do
    let x ← evE F a ρ
    let y ← evE F b ρ
    op2 m op x y
  | .un op a, ρ => do
    let x ← evE F a ρ
    op1 op x
  | .cmp op a b, ρ => do
    let x ← evE F a ρ
    let y ← evE F b ρ
    let c ← cmpD op x y
    M.pure (.bl c)
  | .cmp2 o1 o2 a b c, ρ => do
    let x ← evE F a ρ
    let y ← evE F b ρ
    let k ← cmpD o1 x y
    if k = true then do
      let z ← evE F c ρ
      let j ← cmpD o2 y z
      M.pure (.bl j)
    else M.pure (.bl false)
  | .isN neg a, ρ => do
    let x ← evE F a ρ
    M.pure (.bl (if neg = true then !decide (x = .non) else decide (x = .non)))
  | .isB neg b a, ρ => do
    let x ← evE F a ρ
    (match x with
    | .bl y => M.pure (.bl (if neg = true then !decide (y = b) else decide (y = b)))
    | _ => mbad)
  | .and a b, ρ => do
    let x ← evE F a ρ
    (match x with
    | .bl c => if c = true then evE F b ρ else M.pure (.bl false)
    | _ => mbad)
  | .or a b, ρ => do
    let x ← evE F a ρ
    (match x with
    | .bl c => if c = true then M.pure (.bl true) else evE F b ρ
    | _ => mbad)
  | .not a, ρ => do
    let x ← evE F a ρ
    (match x with
    | .bl c => M.pure (.bl (!c))
    | _ => mbad)
  | .ite t a b, ρ => do
    let c ← evT F t ρ
    if c = true then evE F a ρ else evE F b ρ
  | .ix a i, ρ => do
    let x ← evE F a ρ
    let y ← evE F i ρ
    getIx x y
  | .sl m a lo hi, ρ => do
    let x ← evE F a ρ
    let i ← evEo F lo ρ
    let j ← evEo F hi ρ
    slice m x i j
  | .rev m a, ρ => do
    let x ← evE F a ρ
    revD m x
  | .bi m f es, ρ => do
    let l ← evEs F es ρ
    bi m f l
  | .isi a t, ρ => do
    let x ← evE F a ρ
    let b ← isTy x t
    M.pure (.bl b)
  | .own m f es, ρ => do
    let l ← evEs F es ρ
    F.cl m f l
  | .comp m elt vs tg it c, ρ => do
    let src ← evIt F it ρ
    let l ← compL (fun d => match bindT tg d (wipeD ρ vs) with
      | some ρ' => do
        let b ← evTs F c ρ'
        if b = true then do
          let y ← evE F elt ρ'
          M.pure (some y)
        else M.pure none
      | none => mbad) src src.items []
    newL m l
  | .comp2 m elt vs vs1 tg it c tg1 it1 c1, ρ => do
    let src ← evIt F it ρ
    let l ← compL2 (fun d acc => match bindT tg d (wipeD ρ vs) with
      | some ρ' => do
        let b ← evTs F c ρ'
        if b = true then do
          let src1 ← evIt F it1 ρ'
          compL (fun d1 => match bindT tg1 d1 (wipeD ρ' vs1) with
            | some ρ2 => do
              let b ← evTs F c1 ρ2
              if b = true then do
                let y ← evE F elt ρ2
                M.pure (some y)
              else M.pure none
            | none => mbad) src1 src1.items acc
        else M.pure acc
      | none => mbad) src src.items []
    newL m l
  | .dcomp m k x vs tg it c, ρ => do
    let src ← evIt F it ρ
    let l ← compD (fun d => match bindT tg d (wipeD ρ vs) with
      | some ρ' => do
        let b ← evTs F c ρ'
        if b = true then do
          let y ← evE F k ρ'
          let z ← evE F x ρ'
          M.pure (some (y, z))
        else M.pure none
      | none => mbad) src src.items ([], [])
    newK m l.1 l.2
  | .meth mt a es, ρ => do
    let x ← evE F a ρ
    let _ ← asL x
    let l ← evEs F es ρ
    meth mt x l
  | .minD a b, ρ => do
    let x ← evE F a ρ
    let y ← evE F b ρ
    let l ← asL x
    let ns ← mof (toInts l)
    (match minI ns with
    | some i => M.pure (.int i)
    | none => M.pure y)
  | .rngE t m es, ρ => do
    let l ← evEs F es ρ
    let s ← rangeE l
    if t = true then newT s else newL m s
def evEs (F : Cf) : Es → Env → M (List D)
  | .nil, _ => M.pure []
  | .cons e r, ρ => do
    let d ← evE F e ρ
    let l ← evEs F r ρ
    M.pure (d :: l)
def evEo (F : Cf) : Eo → Env → M (Option Int)
  | .none, _ => M.pure none
  | .some e, ρ => do
    let d ← evE F e ρ
    (match d with
    | .int i => M.pure (some i)
    | _ => mbad)
/-- a test -/
def evT (F : Cf) : E → Env → M Bool
  | .and a b, ρ => do
    let x ← evT F a ρ
    if x = true then evT F b ρ else M.pure false
  | .or a b, ρ => do
    let x ← evT F a ρ
    if x = true then M.pure true else evT F b ρ
  | .not a, ρ => do
    let x ← evT F a ρ
    M.pure (!x)
  | .ite t a b, ρ => do
    let c ← evT F t ρ
    if c = true then evT F a ρ else evT F b ρ
  | e, ρ => do
    let x ← evE F e ρ
    truth x
/-- all tests of a comprehension's for -/
def evTs (F : Cf) : Es → Env → M Bool
  | .nil, _ => M.pure true
  | .cons e _, ρ => evT F e ρ
def evIt (F : Cf) : It → Env → M Src
  | .bad, _ => mbad
  | .seq e, ρ => do
    let d ← evE F e ρ
    srcOf d
  | .rng es, ρ => do
    let l ← evEs F es ρ
    rangeSrc l
  | .enum e, ρ => do
    let d ← evE F e ρ
    let s ← srcOf d
    M.pure ⟨s.w, numbered 0 s.items, true⟩
  | .zip a b, ρ => do
    let x ← evE F a ρ
    let y ← evE F b ρ
    let s ← srcOf x
    let t ← srcOf y
    if s.isL = t.isL then M.pure ⟨s.w ++ t.w, zipD s.items t.items, true⟩ else mbad
end
/-! ### statements -/
mutual
inductive S where
  | bad | pass
  | asg (tg : T) (e : E) | par (is : List Nat) (es : Es) | setix (a i e : E) | aug (i : Nat) (op : Op2) (e : E)
  | expr (e : E) | ret (e : E) | ife (t : E) (a b : Ss) | for_ (tg : T) (it : It) (b : Ss) | whl (t : E) (b : Ss)
  | raise (c : Str) (es : Es) | try_ (b : Ss) (hs : Hs)
inductive Ss where
  | nil | cons (s : S) (r : Ss)
inductive Hs where
  | nil | cons (c : Str) (nm : Option Nat) (b : E) (r : Hs)
end
instance : Inhabited S := ⟨.bad⟩
instance : Inhabited Ss := ⟨.nil⟩
inductive Fl where
  | nx | rt (d : D)
inductive SRes where
  | ok (f : Fl) (ρ : Env) (st : Store)
  | err (c : Str) (as : List D) (ρ : Env) (st : Store)
  | bad
def ofM {α : Type} (x : M α) (ρ : Env) (k : α → Store → SRes) (st : Store) : SRes := match x st with
  | .ok a st' => k a st'
  | .err c as st' => .err c as ρ st'
  | .bad => .bad
def SRes.next (r : SRes) (k : Env → Store → SRes) : SRes := match r with
  | .ok .nx ρ st => k ρ st
  | r => r
def setAll : List Nat → List D → Env → Option Env
  | [], [], ρ => some ρ
  | i :: r, d :: l, ρ => setAll r l (ρ.set i (some d))
  | _, _, _ => none
/-- a for: body by item -/
def forL (tg : T) (body : Env → Store → SRes) (src : Src) : List D → Env → Store → SRes
  | [], ρ, st => if src.chk st = true then .ok .nx ρ st else .bad
  | x :: r, ρ, st => if src.chk st = true then (match bindT tg x ρ with
      | some ρ' => (body ρ' st).next (forL tg body src r)
      | none => .bad) else .bad
/-- a while: by turns -/
def whlL (t : Env → M Bool) (body : Env → Store → SRes) : Nat → Env → Store → SRes
  | 0, _, _ => .bad
  | n + 1, ρ, st => ofM (t ρ) ρ (fun b st' => if b = true then (body ρ st').next (whlL t body n) else .ok .nx ρ st') st
/-- a name's thing, added to or taken off from -/
def augF (op : Op2) (x d : D) : M D := match op with
  | .add => op2 false .add x d
  | .sub => op2 false .sub x d
  | _ => mbad
def turns : Nat := 1000000000000
mutual
def evS (F : Cf) : S → Env → Store → SRes
  | .bad, _, _ => .bad
  | .pass, ρ, st => .ok .nx ρ st
  | .asg tg e, ρ, st => ofM (evE F e ρ) ρ (fun d st' => match bindT tg d ρ with
    | some ρ' => .ok .nx ρ' st'
    | none => .bad) st
  | .par is es, ρ, st => ofM (evEs F es ρ) ρ (fun l st' => match setAll is l ρ with
    | some ρ' => .ok .nx ρ' st'
    | none => .bad) st
  | .setix a i e, ρ, st => ofM (evE F e ρ) ρ (fun d st1 => ofM (evE F a ρ) ρ (fun x st2 => ofM (evE F i ρ) ρ (fun y st3 => ofM (setIx x y d) ρ (fun _ st4 => .ok .nx ρ st4) st3) st2) st1) st
  | .aug i op e, ρ, st => (match ρ[i]? with
    | some (some x) => ofM (evE F e ρ) ρ (fun d st1 => match x, d with
      | .int _, .int _ => (match op with
        | .add => ofM (op2 false .add x d) ρ (fun z st2 => .ok .nx (ρ.set i (some z)) st2) st1
        | .sub => ofM (op2 false .sub x d) ρ (fun z st2 => .ok .nx (ρ.set i (some z)) st2) st1
        | _ => .bad)
      | _, _ => .bad) st
    | _ => .bad)
  | .expr e, ρ, st => ofM (evE F e ρ) ρ (fun _ st' => .ok .nx ρ st') st
  | .ret e, ρ, st => ofM (evE F e ρ) ρ (fun d st' => .ok (.rt d) ρ st') st
  | .ife t a b, ρ, st => ofM (evT F t ρ) ρ (fun c st' => if c = true then evSs F a ρ st' else evSs F b ρ st') st
  | .for_ tg it b, ρ, st => ofM (evIt F it ρ) ρ (fun src st' => forL tg (evSs F b) src src.items ρ st') st
  | .whl t b, ρ, st => whlL (evT F t) (evSs F b) turns ρ st
  | .raise c es, ρ, st => ofM (evEs F es ρ) ρ (fun l st' => .err c l ρ st') st
  | .try_ b hs, ρ, st => (match evSs F b ρ st with
    | .err c as ρ' st' => evHs F hs c as ρ' st'
    | r => r)
def evSs (F : Cf) : Ss → Env → Store → SRes
  | .nil, ρ, st => .ok .nx ρ st
  | .cons s r, ρ, st => (evS F s ρ st).next (evSs F r)
def evHs (F : Cf) : Hs → Str → List D → Env → Store → SRes
  | .nil, c, as, ρ, st => .err c as ρ st
  | .cons h _ b r, c, as, ρ, st => (match F.sub c h with
    | some true => ofM (noErr (evE F b ρ)) ρ (fun d st' => .ok (.rt d) ρ st') st
    | some false => evHs F r c as ρ st
    | none => .bad)
end
/-! ### calls -/
mutual
/-- no place of the store from n on -/
def D.under (n : Nat) : D → Bool
  | .ref k => decide (k < n)
  | .tup l => D.underL n l
  | .lst l => D.underL n l
  | .dct k v => D.underL n k && D.underL n v
  | _ => true
def D.underL (n : Nat) : List D → Bool
  | [] => true
  | d :: r => D.under n d && D.underL n r
end
def O.under (n : Nat) : O → Bool
  | .lst l => D.underL n l
  | .dct k v => D.underL n k && D.underL n v
mutual
/-- places from n on give way to what g says -/
def subD (n : Nat) (g : Nat → Option D) : D → Option D
  | .ref k => if k < n then some (.ref k) else g k
  | .tup l => (match subL n g l with
    | some l => some (.tup l)
    | none => none)
  | .lst l => (match subL n g l with
    | some l => some (.lst l)
    | none => none)
  | .dct a b => (match subL n g a, subL n g b with
    | some a, some b => some (.dct a b)
    | _, _ => none)
  | .non => some .non
  | .bl b => some (.bl b)
  | .int i => some (.int i)
  | .str s => some (.str s)
  | .scr s => some (.scr s)
def subL (n : Nat) (g : Nat → Option D) : List D → Option (List D)
  | [] => some []
  | d :: r => (match subD n g d, subL n g r with
    | some d, some r => some (d :: r)
    | _, _ => none)
end
/-- what stands at a place, f deep -/
def frzAt (n : Nat) (st : Store) (ex : Nat) : Nat → Nat → Option D
  | 0, _ => none
  | f + 1, k => if k = ex then none else (match st[k]? with
    | some (.lst l) => (match subL n (frzAt n st ex f) l with
      | some l => some (.lst l)
      | none => none)
    | some (.dct a b) => (match subL n (frzAt n st ex f) a, subL n (frzAt n st ex f) b with
      | some a, some b => some (.dct a b)
      | _, _ => none)
    | none => none)
def deep : Nat := 6
/-- the elder places are as they were, or name no newer ones -/
def oldOk (st st' : Store) : Bool := (List.range st.length).all fun i => decide (st'[i]? = st[i]?) || (match st'[i]? with
  | some o => o.under st.length
  | none => false)
/-- behind a call: what was made within is given up, but what is handed back -/
def back (m : Bool) (st st' : Store) (d : D) : Res D := if oldOk st st' = true ∧ st.length ≤ st'.length then (match m, d with
  | true, .ref k => if k < st.length then .ok d (st'.take st.length) else (match st'[k]? with
    | some (.lst l) => (match subL st.length (frzAt st.length st' k deep) l with
      | some l => .ok (.ref st.length) (st'.take st.length ++ [.lst l])
      | none => .bad)
    | some (.dct a b) => (match subL st.length (frzAt st.length st' k deep) a, subL st.length (frzAt st.length st' k deep) b with
      | some a, some b => .ok (.ref st.length) (st'.take st.length ++ [.dct a b])
      | _, _ => .bad)
    | none => .bad)
  | _, d => (match subD st.length (frzAt st.length st' st'.length deep) d with
    | some d => .ok d (st'.take st.length)
    | none => .bad)) else .bad
def backE (st st' : Store) (c : Str) (as : List D) : Res D := if oldOk st st' = true ∧ st.length ≤ st'.length then (match as with
    | [] => .err c [] (st'.take st.length)
    | _ => .bad) else .bad
structure Fn where
  np : Nat
  nl : Nat
  body : Ss
/-- a def of the program called, k calls deep -/
def runF (tb : Str → Option Fn) (sub : Str → Str → Option Bool) : Nat → Bool → Str → List D → M D
  | 0, _, _, _ => mbad
  | k + 1, m, f, as => fun st => match tb f with
    | none => .bad
    | some fn => if as.length = fn.np ∧ fn.np ≤ fn.nl then (match evSs ⟨runF tb sub k, sub⟩ fn.body (as.map some ++ List.replicate (fn.nl - fn.np) none) st with
      | .ok .nx _ st' => back m st st' .non
      | .ok (.rt d) _ st' => back m st st' d
      | .err c l _ st' => backE st st' c l
      | .bad => .bad) else .bad
/-! ### the translator -/
structure Tc where
  N : List Str
  gc : List (Str × D)
  free : List Str
  own : List (Str × Nat)
  exc : List Str
  mu : List (Nat × Nat)
def slot (N : List Str) (x : Str) : Option Nat := N.findIdx? fun y => decide (y = x)
def Tc.m (c : Tc) (p : Pos) : Bool := c.mu.contains (p.line, p.col)
def opOf : Operator → Option Op2
  | .Add => some .add
  | .Sub => some .sub
  | .Mult => some .mul
  | .FloorDiv => some .fdiv
  | .Mod => some .mod
  | .Pow => some .pow
  | .LShift => some .shl
  | .RShift => some .shr
  | .BitAnd => some .and
  | .BitOr => some .or
  | .BitXor => some .xor
  | _ => none
def cmOf : CmpOp → Option Cm
  | .Eq => some .eq
  | .NotEq => some .ne
  | .Lt => some .lt
  | .LtE => some .le
  | .Gt => some .gt
  | .GtE => some .ge
  | .In => some .inn
  | .NotIn => some .nin
  | _ => none
def tyOf (x : Str) : Option Ty := if x = "int" then some .int else if x = "bool" then some .bool else if x = "str" then some .str else if x = "tuple" then some .tuple else if x = "list" then some .list else if x = "dict" then some .dict else none
def biOf (x : Str) : Option Bi := if x = "len" then some .len else if x = "abs" then some .abs else if x = "int" then some .int else if x = "sum" then some .sum else if x = "min" then some .min else if x = "max" then some .max else if x = "all" then some .all else if x = "any" then some .any else if x = "sorted" then some .sorted else if x = "tuple" then some .tuple else if x = "list" then some .list else none
def mtOf (x : Str) : Option Mt := if x = "append" then some .append else if x = "extend" then some .extend else if x = "pop" then some .pop else if x = "index" then some .index else none
/-- a name of the module or of Python -/
def isGl (sc : Scope) (x : Str) : Bool := decide (sc.names.lookup x = some .globalImplicit)
def isLoc (sc : Scope) (x : Str) : Bool := match sc.names.lookup x with
  | some .local => true
  | some .cell => true
  | _ => false
def okName (x : Str) : Bool := !(x == ("__debug__" : Str)) && !(x == ("__classdict__" : Str)) && !decide (x = "__name__")
def isStar : PySem.Expr → Bool
  | .Starred _ _ => true
  | _ => false
def isSliceE : PySem.Expr → Bool
  | .Slice _ _ _ _ => true
  | _ => false
def isSetE : PySem.Expr → Bool
  | .Set _ _ _ => true
  | _ => false
def isCompE : PySem.Expr → Bool
  | .ListComp _ _ _ _ => true
  | .SetComp _ _ _ _ => true
  | .DictComp _ _ _ _ _ => true
  | _ => false
def isCallE : PySem.Expr → Bool
  | .Call _ _ _ _ => true
  | _ => false
def isVis (sc : Scope) (x : Str) : Bool := match sc.names.lookup x with
  | some .local => true
  | some .cell => true
  | some .free => true
  | _ => false
def Tc.isFree (c : Tc) (sc : Scope) (x : Str) : Bool := isGl sc x && c.free.contains x
def ownOf (N : List Str) (scope : Scope) : List (Str × Nat) := scope.names.filterMap fun p => match p.2 with
  | .local => (slot N p.1).map fun i => (p.1, i)
  | .cell => (slot N p.1).map fun i => (p.1, i)
  | _ => none
mutual
def tgSlots : T → List Nat
  | .nm i => [i]
  | .tp ts => tgsSlots ts
def tgsSlots : Ts → List Nat
  | .nil => []
  | .cons t r => tgSlots t ++ tgsSlots r
end
mutual
/-- a target: plain local names -/
def tOf (c : Tc) (sc : Scope) : Nat → PySem.Expr → Option T
  | 0, _ => none
  | n + 1, x => (match x with
    | .Name id _ => if okName id = true ∧ isLoc sc id = true then (match slot c.N id with
      | some i => some (.nm i)
      | none => none) else none
    | .Tuple es _ _ => (match tsOf c sc n es with
      | some ts => some (.tp ts)
      | none => none)
    | _ => none)
def tsOf (c : Tc) (sc : Scope) : Nat → List PySem.Expr → Option Ts
  | 0, _ => none
  | _ + 1, [] => some .nil
  | n + 1, x :: r => (match tOf c sc n x, tsOf c sc n r with
    | some t, some ts => some (.cons t ts)
    | _, _ => none)
end
def isTupE : PySem.Expr → Bool
  | .Tuple _ _ _ => true
  | _ => false
/-- what stands in sorted(set(..)) -/
def setArg (c : Tc) (sc : Scope) (f : Str) (es : List PySem.Expr) : Option PySem.Expr := if f = "sorted" ∧ c.isFree sc "sorted" = true ∧ c.isFree sc "set" = true then (match es with
    | [.Call (.Name g _) [x] [] _] => if g = "set" ∧ isStar x = false then some x else none
    | _ => none) else none
/-- what stands in list(range(..)), tuple(range(..)) -/
def rngArg (c : Tc) (sc : Scope) (f : Str) (es : List PySem.Expr) : Option (Bool × List PySem.Expr) := if (f = "list" ∨ f = "tuple") ∧ c.isFree sc f = true ∧ c.isFree sc "range" = true then (match es with
    | [.Call (.Name g _) rs [] _] => if g = "range" ∧ (rs.length = 1 ∨ rs.length = 2) ∧ rs.any isStar = false then some (decide (f = "tuple"), rs) else none
    | _ => none) else none
mutual
def eOf (c : Tc) : Nat → Scope → PySem.Expr → E
  | 0, _, _ => .bad
  | n + 1, sc, x => (match x with
    | .Constant (.int i) _ _ => .c (.int i)
    | .Constant (.bool b) _ _ => .c (.bl b)
    | .Constant .none _ _ => .c .non
    | .Constant (.str s) _ _ => .c (.str s)
    | .Name id _ => if okName id = false then .bad else if isVis sc id = true then (match slot c.N id with
        | some i => .v i
        | none => .bad) else if isGl sc id = true then (match c.gc.lookup id with
        | some d => .c d
        | none => .bad) else .bad
    | .BinOp a op b pos => (match opOf op with
      | some o => .bin (c.m pos) o (eOf c n sc a) (eOf c n sc b)
      | none => .bad)
    | .UnaryOp .Not a _ => .not (eOf c n sc a)
    | .UnaryOp .USub a _ => .un .neg (eOf c n sc a)
    | .UnaryOp .Invert a _ => .un .inv (eOf c n sc a)
    | .BoolOp _ [a] _ => eOf c n sc a
    | .BoolOp .And (a :: r) pos => .and (eOf c n sc a) (eOf c n sc (.BoolOp .And r pos))
    | .BoolOp .Or (a :: r) pos => .or (eOf c n sc a) (eOf c n sc (.BoolOp .Or r pos))
    | .Compare a [.Is] [.Constant .none _ _] _ => .isN false (eOf c n sc a)
    | .Compare a [.IsNot] [.Constant .none _ _] _ => .isN true (eOf c n sc a)
    | .Compare a [.Is] [.Constant (.bool b) _ _] _ => .isB false b (eOf c n sc a)
    | .Compare a [.IsNot] [.Constant (.bool b) _ _] _ => .isB true b (eOf c n sc a)
    | .Compare a [op] [b] _ => if behindInMarks op b = true then .bad else (match cmOf op with
      | some o => .cmp o (eOf c n sc a) (eOf c n sc b)
      | none => .bad)
    | .Compare a [o1, o2] [b, d] _ => if lastMarks [o1, o2] [b, d] = true then .bad else (match cmOf o1, cmOf o2 with
      | some p, some q => .cmp2 p q (eOf c n sc a) (eOf c n sc b) (eOf c n sc d)
      | _, _ => .bad)
    | .IfExp t a b _ => .ite (eOf c n sc t) (eOf c n sc a) (eOf c n sc b)
    | .Subscript a (.Slice none none (some (.UnaryOp .USub (.Constant (.int 1) _ _) _)) _) pos => .rev (c.m pos) (eOf c n sc a)
    | .Subscript a (.Slice lo hi none _) pos => .sl (c.m pos) (eOf c n sc a) (eoOf c n sc lo) (eoOf c n sc hi)
    | .Subscript _ (.Slice _ _ _ _) _ => .bad
    | .Subscript a i _ => .ix (eOf c n sc a) (eOf c n sc i)
    | .Tuple es _ _ => .tup (esOf c n sc es)
    | .List es pos => .lst (c.m pos) (esOf c n sc es)
    | .Dict [] [] pos => .dct0 (c.m pos)
    | .Call (.Name f _) [a, .Name t q] [] pos => if okName f = false then .bad else if c.isFree sc f = true then (if f = "isinstance" then (if c.isFree sc t = true then (match tyOf t with
            | some k => .isi (eOf c n sc a) k
            | none => .bad) else .bad) else (match biOf f with
            | some k => .bi (c.m pos) k (esOf c n sc [a, .Name t q])
            | none => .bad)) else if isGl sc f = true then (match c.own.lookup f with
        | some k => if k = 2 then .own (c.m pos) f (esOf c n sc [a, .Name t q]) else .bad
        | none => .bad) else .bad
    | .Call (.Name f _) (a :: as) [] pos => if okName f = false then .bad else (match setArg c sc f (a :: as) with
      | some x => .bi (c.m pos) .sortset (esOf c n sc [x])
      | none => (match rngArg c sc f (a :: as) with
        | some (t, rs) => .rngE t (c.m pos) (esOf c n sc rs)
        | none => if c.isFree sc f = true then (match biOf f with
            | some k => .bi (c.m pos) k (esOf c n sc (a :: as))
            | none => .bad) else if isGl sc f = true then (match c.own.lookup f with
            | some k => if k = (a :: as).length then .own (c.m pos) f (esOf c n sc (a :: as)) else .bad
            | none => .bad) else .bad))
    | .Call (.Name f _) [a] [⟨some k, b, _⟩] _ => if c.isFree sc f = true ∧ f = "min" ∧ k = "default" then .minD (eOf c n sc a) (eOf c n sc b) else .bad
    | .Call (.Attribute a m q) as [] pos => if (q.endLine == pos.line) = false ∨ isCallE a = true ∨ 28 < as.length ∨ as.any isStar = true then .bad else (match mtOf m with
      | some k => .meth k (eOf c n sc a) (esOf c n sc as)
      | none => .bad)
    | .ListComp elt [⟨tg, it, ifs, 0⟩] scope pos => if blkC c.N sc scope (ownOf c.N scope) = true then (match tOf c scope n tg with
        | some t => if (tgSlots t).all (fun i => (ownOf c.N scope).any fun p => p.2 == i) = true then .comp (c.m pos) (eOf c n (relS scope sc) elt) ((ownOf c.N scope).map (·.2)) t (itOf c (isTupE tg) n sc it) (tsts c n (relS scope sc) ifs) else .bad
        | none => .bad) else .bad
    | .ListComp elt [⟨tg, it, ifs, 0⟩, ⟨tg1, it1, ifs1, 0⟩] scope pos => if blkC c.N sc scope (ownOf c.N scope) = true ∧ isSetE it1 = false then (match tOf c scope n tg, tOf c scope n tg1 with
        | some t, some t1 => if (tgSlots t ++ tgSlots t1).all (fun i => (ownOf c.N scope).any fun p => p.2 == i) = true then .comp2 (c.m pos) (eOf c n (relS scope sc) elt) ((ownOf c.N scope).map (·.2)) (tgSlots t1) t (itOf c (isTupE tg) n sc it) (tsts c n (relS scope sc) ifs) t1 (itOf c (isTupE tg1) n (relS scope sc) it1) (tsts c n (relS scope sc) ifs1) else .bad
        | _, _ => .bad) else .bad
    | .DictComp k v [⟨tg, it, ifs, 0⟩] scope pos => if blkC c.N sc scope (ownOf c.N scope) = true then (match tOf c scope n tg with
        | some t => if (tgSlots t).all (fun i => (ownOf c.N scope).any fun p => p.2 == i) = true then .dcomp (c.m pos) (eOf c n (relS scope sc) k) (eOf c n (relS scope sc) v) ((ownOf c.N scope).map (·.2)) t (itOf c (isTupE tg) n sc it) (tsts c n (relS scope sc) ifs) else .bad
        | none => .bad) else .bad
    | _ => .bad)
def esOf (c : Tc) : Nat → Scope → List PySem.Expr → Es
  | 0, _, _ => .cons .bad .nil
  | _ + 1, _, [] => .nil
  | n + 1, sc, x :: r => if (x :: r).any isStar = true then .cons .bad .nil else .cons (eOf c n sc x) (esOf c n sc r)
def eoOf (c : Tc) : Nat → Scope → Option PySem.Expr → Eo
  | 0, _, _ => .some .bad
  | _ + 1, _, none => .none
  | n + 1, sc, some x => .some (eOf c n sc x)
/-- no test or one -/
def tsts (c : Tc) : Nat → Scope → List PySem.Expr → Es
  | 0, _, _ => .cons .bad .nil
  | _ + 1, _, [] => .nil
  | n + 1, sc, [x] => .cons (eOf c n sc x) .nil
  | _ + 1, _, _ => .cons .bad .nil
def itOf (c : Tc) (tp : Bool) : Nat → Scope → PySem.Expr → It
  | 0, _, _ => .bad
  | n + 1, sc, x => (match x with
    | .Call (.Name f _) as [] _ => if c.isFree sc f = true then (if f = "range" then (if as.length = 1 ∨ as.length = 2 ∨ as.length = 3 then .rng (esOf c n sc as) else .bad) else (match as with
        | [a] => if f = "enumerate" then (if tp = true then .enum (eOf c n sc a) else .bad) else .seq (eOf c n sc x)
        | [a, b] => if f = "zip" then (if tp = true ∧ isStar b = false then .zip (eOf c n sc a) (eOf c n sc b) else .bad) else .seq (eOf c n sc x)
        | _ => .seq (eOf c n sc x))) else .seq (eOf c n sc x)
    | _ => .seq (eOf c n sc x))
end
/-- the names that stand there -/
def namesOf (l : List PySem.Expr) : Option (List (Str × Pos)) := match l with
  | [] => some []
  | .Name id p :: r => (namesOf r).map ((id, p) :: ·)
  | _ => none
/-- how a, b = x, y is stored: 0 as ever, 1 from the right, 2 not told -/
def swapB (sc : Scope) (ts vs : List PySem.Expr) : Nat :=
  if (ts.length = 2 ∨ ts.length = 3) ∧ vs.length = ts.length ∧ vs.any isStar = false then (match namesOf ts with
    | some l => (match l with
      | (_, p0) :: _ => if l.all (fun q => decide (sc.names.lookup q.1 = some .local) && decide (q.2.line = p0.line)) = true then (if (l.map (·.1)).Nodup then (if vs.all (foldedForSure 8) = true then 0 else if vs.all (constantsAlone 8) = true then 2 else 1) else 2) else 0
      | [] => 2)
    | none => 0) else 0
/-- a constant -/
def constD : PySem.Expr → Option D
  | .Constant (.int i) _ _ => some (.int i)
  | .Constant (.bool b) _ _ => some (.bl b)
  | .Constant .none _ _ => some .non
  | .Constant (.str s) _ _ => some (.str s)
  | _ => none
def constEs : List PySem.Expr → Option Es
  | [] => some .nil
  | e :: r => (match constD e, constEs r with
    | some d, some es => some (.cons (.c d) es)
    | _, _ => none)
/-- what an except clause hands back: a constant or a list of such -/
def constE (c : Tc) (e : PySem.Expr) : Option E := match e with
  | .List es pos => (constEs es).map (E.lst (c.m pos))
  | e => (constD e).map E.c
mutual
def sOf (c : Tc) (sc : Scope) : Nat → Stmt → S
  | 0, _ => .bad
  | n + 1, x => (match x with
    | .Pass _ => .pass
    | .Return (some e) _ => .ret (eOf c n sc e)
    | .Return none _ => .ret (.c .non)
    | .Expr e _ => if isCompE e = true then .bad else .expr (eOf c n sc e)
    | .Assign [.Tuple ts k p] (.Tuple es k2 p2) _ => (match swapB sc ts es with
      | 0 => (match tOf c sc n (.Tuple ts k p) with
        | some t => .asg t (eOf c n sc (.Tuple es k2 p2))
        | none => .bad)
      | 1 => (match tsOf c sc n ts with
        | some t => .par (tgsSlots t) (esOf c n sc es)
        | none => .bad)
      | _ => .bad)
    | .Assign [.Subscript a i _] e _ => if isSliceE i = true then .bad else .setix (eOf c n sc a) (eOf c n sc i) (eOf c n sc e)
    | .Assign [t] e _ => (match tOf c sc n t with
      | some t => .asg t (eOf c n sc e)
      | none => .bad)
    | .AugAssign (.Name x _) op e _ => if isLoc sc x = true then (match slot c.N x, opOf op with
      | some i, some o => .aug i o (eOf c n sc e)
      | _, _ => .bad) else .bad
    | .If t a b _ => .ife (eOf c n sc t) (ssOf c sc n a) (ssOf c sc n b)
    | .For t0 it b [] _ => (match tOf c sc n t0 with
      | some t => .for_ t (itOf c (isTupE t0) n sc it) (ssOf c sc n b)
      | none => .bad)
    | .While t b [] _ => .whl (eOf c n sc t) (ssOf c sc n b)
    | .Raise (some (.Call (.Name x _) as [] _)) none _ => if okName x = true ∧ isGl sc x = true ∧ c.exc.contains x = true ∧ as.isEmpty = true then .raise x .nil else .bad
    | .Try b (h :: hs) [] [] _ => (match hsOf c sc n (h :: hs) with
      | some l => .try_ (ssOf c sc n b) l
      | none => .bad)
    | _ => .bad)
def ssOf (c : Tc) (sc : Scope) : Nat → List Stmt → Ss
  | 0, _ => .cons .bad .nil
  | _ + 1, [] => .nil
  | n + 1, x :: r => .cons (sOf c sc n x) (ssOf c sc n r)
def hsOf (c : Tc) (sc : Scope) : Nat → List ExceptHandler → Option Hs
  | 0, _ => none
  | _ + 1, [] => some .nil
  | n + 1, .ExceptHandler (some (.Name x _)) nm [.Return (some e) _] _ :: r => if okName x = true ∧ isGl sc x = true ∧ c.exc.contains x = true then (match constE c e with
      | some b => (match nm with
        | none => (hsOf c sc n r).map (Hs.cons x none b)
        | some y => if sc.names.lookup y = some .local then (match slot c.N y with
          | some i => (hsOf c sc n r).map (Hs.cons x (some i) b)
          | none => none) else none)
      | none => none) else none
  | _ + 1, _ => none
end
/-- a def of the text as a function -/
def fnOf (c : Tc) (np : Nat) (st : Stmt) : Fn := ⟨np, c.N.length, ssOf c (defScope st) 60 (defBody st)⟩
end PI
set_option Elab.async false
set_option linter.all false
set_option maxRecDepth 100000
set_option maxHeartbeats 4000000
/-! PI, part B: how data and store stand for V and the abstract heap; readings made of the interpreter's answers. -/
namespace PI
open PySem PySem.Spec PyProof.Rows L2
/-! ### what stands for what -/
/-- the places of the store; objects that no thing may stand for (a list that is being made) -/
structure Mu where
  pl : List Addr
  hid : List Addr
/-- a place of neither kind -/
def Mu.no (mu : Mu) (a : Addr) : Prop := a ∉ mu.pl ∧ a ∉ mu.hid
def Mu.push (mu : Mu) (p : Addr) : Mu := ⟨mu.pl ++ [p], mu.hid⟩
/-- a dict, known to the object -/
def dHO (a : Addr) (o : Obj) : HO := .ext fun h => h.get? a = some o
theorem dHO_tup {a : Addr} {o : Obj} {xs : List V} : dHO a o ≠ .tup xs := fun z => by cases z
theorem dHO_lst {a : Addr} {o : Obj} {xs : List V} : dHO a o ≠ .lst xs := fun z => by cases z
mutual
/-- a key as the library has it -/
def nk : D → NestedKey
  | .non => .none
  | .bl b => .num (PI.b2i b)
  | .int i => .num i
  | .str s => .text s
  | .tup l => .tup (nks l)
  | _ => .none
def nks : List D → List NestedKey
  | [] => []
  | d :: r => nk d :: nks r
end
/-- no two keys alike -/
def kNodup : List D → Prop
  | [] => True
  | k :: r => (∀ x ∈ r, D.eqv k x = false) ∧ kNodup r
/-- the dict's object: entries, keys, values -/
def DctAt (w : World) (H : Hp) (a : Addr) (ks : List D) (kv vv : List V) : Prop :=
  ∃ (o : Obj) (es : Array DictEntry) (ep : Nat), H a = some (dHO a o) ∧ o.ExactDict ∧ o.data = .dict es ep ∧ (a == sysModules) = false ∧ es.size ≤ sizeLine ∧
    Vals kv (es.toList.map (·.key)) ∧ Vals vv (es.toList.map (·.val)) ∧ es.toList.map (·.hash) = ks.map fun k => (nk k).hash w
/-- a tuple: tracked, or of the module -/
def TupAt (K : PySem.W.Frag) (mu : Mu) (H : Hp) (a : Addr) (xs : List V) : Prop :=
  (Rd H a (.tup xs) ∧ mu.no a) ∨
    ∃ (o : Obj) (its : Array Value) (n : Nat), K.lookup a = some o ∧ o.cls = .type "tuple" ∧ o.data = .seq its n ∧ its.size ≤ sizeLine ∧ Vals xs its.toList
/-- the script: a list of the law's, or of the module -/
def ScrAt (K : PySem.W.Frag) (mu : Mu) (H : Hp) (a : Addr) (xs : List V) : Prop :=
  ((∃ o, H a = some (.frz o (.lst xs))) ∧ mu.no a) ∨
    ∃ (o : Obj) (its : Array Value) (n : Nat), K.lookup a = some o ∧ o.cls = .type "list" ∧ o.dict = none ∧ o.data = .seq its n ∧ its.size ≤ sizeLine ∧ Vals xs its.toList
theorem ScrAt.sq {K : PySem.W.Frag} {mu : Mu} {H : Hp} {a : Addr} {xs : List V} (h : ScrAt K mu H a xs) : SqL K H a xs := by
  rcases h with ⟨⟨o, h⟩, _⟩ | h
  · exact .inl (.inr ⟨o, h⟩)
  · exact .inr h
theorem TupAt.sq {K : PySem.W.Frag} {mu : Mu} {H : Hp} {a : Addr} {xs : List V} (h : TupAt K mu H a xs) : SqT K H a xs := by
  rcases h with ⟨h, _⟩ | h
  · exact .inl h
  · exact .inr h
section
variable (w : World) (K : PySem.W.Frag) (mu : Mu) (H : Hp)
mutual
inductive Den : V → D → Prop
  | non : Den .non .non
  | bl (b : Bool) : Den (.bl b) (.bl b)
  | int (i : Int) : Den (.int i) (.int i)
  | str (s : Str) : Den (.str s) (.str s)
  | tup {a : Addr} {xs : List V} {l : List D} (h : TupAt K mu H a xs) (r : Dens xs l) : Den (.ref a) (.tup l)
  | lst {a : Addr} {xs : List V} {l : List D} (h : H a = some (.lst xs)) (n : mu.no a) (r : Dens xs l) : Den (.ref a) (.lst l)
  | dct {a : Addr} {ks vs : List D} {kv vv : List V} (h : DctAt w H a ks kv vv) (n : mu.no a) (ok : okKeys ks = true) (nd : kNodup ks) (r : Dens kv ks) (q : Dens vv vs) : Den (.ref a) (.dct ks vs)
  | ref {a : Addr} {n : Nat} (h : mu.pl[n]? = some a) : Den (.ref a) (.ref n)
  | scr {a : Addr} {ns : List Int} (h : ScrAt K mu H a (ns.map V.int)) : Den (.ref a) (.scr ns)
inductive Dens : List V → List D → Prop
  | nil : Dens [] []
  | cons {v : V} {d : D} {xs : List V} {l : List D} (h : Den v d) (r : Dens xs l) : Dens (v :: xs) (d :: l)
end
end
section
variable {w : World} {K : PySem.W.Frag} {mu mu' mu2 : Mu} {H H' H2 : Hp}
theorem Dens.length : ∀ {xs : List V} {l : List D}, Dens w K mu H xs l → xs.length = l.length
  | _, _, .nil => rfl
  | _, _, .cons _ r => congrArg Nat.succ r.length
theorem Dens.get : ∀ {xs : List V} {l : List D} {i : Nat} {d : D}, Dens w K mu H xs l → l[i]? = some d → ∃ v, xs[i]? = some v ∧ Den w K mu H v d
  | _, _, _, _, .nil, e => by simp at e
  | _, _, 0, _, .cons h _, e => by simp at e; subst e; exact ⟨_, rfl, h⟩
  | _, _, i + 1, _, .cons _ r, e => by simpa using Dens.get (i := i) r (by simpa using e)
theorem Dens.at : ∀ {xs : List V} {l : List D} {i : Nat} {v : V}, Dens w K mu H xs l → xs[i]? = some v → ∃ d, l[i]? = some d ∧ Den w K mu H v d
  | _, _, _, _, .nil, e => by simp at e
  | _, _, 0, _, .cons h _, e => by simp at e; subst e; exact ⟨_, rfl, h⟩
  | _, _, i + 1, _, .cons _ r, e => by simpa using Dens.at (i := i) r (by simpa using e)
theorem Dens.append : ∀ {xs ys : List V} {l r : List D}, Dens w K mu H xs l → Dens w K mu H ys r → Dens w K mu H (xs ++ ys) (l ++ r)
  | _, _, _, _, .nil, s => s
  | _, _, _, _, .cons h t, s => .cons h (t.append s)
theorem Dens.snoc {xs : List V} {l : List D} {v : V} {d : D} (h : Dens w K mu H xs l) (hd : Den w K mu H v d) : Dens w K mu H (xs ++ [v]) (l ++ [d]) := h.append (.cons hd .nil)
theorem Dens.take : ∀ {xs : List V} {l : List D} (n : Nat), Dens w K mu H xs l → Dens w K mu H (xs.take n) (l.take n)
  | _, _, 0, _ => by simpa using .nil
  | _, _, _ + 1, .nil => .nil
  | _, _, n + 1, .cons h r => .cons h (r.take n)
theorem Dens.drop : ∀ {xs : List V} {l : List D} (n : Nat), Dens w K mu H xs l → Dens w K mu H (xs.drop n) (l.drop n)
  | _, _, 0, h => h
  | _, _, _ + 1, .nil => .nil
  | _, _, n + 1, .cons _ r => r.drop n
theorem Dens.set : ∀ {xs : List V} {l : List D} (i : Nat) {v : V} {d : D}, Dens w K mu H xs l → Den w K mu H v d → Dens w K mu H (xs.set i v) (l.set i d)
  | _, _, _, _, _, .nil, _ => .nil
  | _, _, 0, _, _, .cons _ r, hd => .cons hd r
  | _, _, i + 1, _, _, .cons h r, hd => .cons h (r.set i hd)
theorem Dens.eraseIdx : ∀ {xs : List V} {l : List D} (i : Nat), Dens w K mu H xs l → Dens w K mu H (xs.eraseIdx i) (l.eraseIdx i)
  | _, _, _, .nil => .nil
  | _, _, 0, .cons _ r => r
  | _, _, i + 1, .cons h r => .cons h (r.eraseIdx i)
theorem Dens.reverse : ∀ {xs : List V} {l : List D}, Dens w K mu H xs l → Dens w K mu H xs.reverse l.reverse
  | _, _, .nil => .nil
  | _, _, .cons h r => by rw [List.reverse_cons, List.reverse_cons]; exact r.reverse.snoc h
theorem Dens.dropLast {xs : List V} {l : List D} (h : Dens w K mu H xs l) : Dens w K mu H xs.dropLast l.dropLast := by
  rw [List.dropLast_eq_take, List.dropLast_eq_take, h.length]; exact h.take _
theorem Dens.flat : ∀ (n : Nat) {xs : List V} {l : List D}, Dens w K mu H xs l → Dens w K mu H (List.replicate n xs).flatten (List.replicate n l).flatten
  | 0, _, _, _ => .nil
  | n + 1, _, _, h => by rw [List.replicate_succ, List.replicate_succ, List.flatten_cons, List.flatten_cons]; exact h.append (h.flat n)
/-- the places' objects may change and the hidden ones, new ones come, new ones may be hidden -/
structure ExtW (mu : Mu) (H : Hp) (mu' : Mu) (H' : Hp) : Prop where
  pre : ∃ r, mu'.pl = mu.pl ++ r ∧ ∀ a ∈ r, H a = none
  old : ∀ a ∈ mu.hid, a ∈ mu'.hid
  new : ∀ a ∈ mu'.hid, a ∈ mu.hid ∨ H a = none
  keep : ∀ a o, H a = some o → mu.no a → H' a = some o
  there : ∀ a o, H a = some o → ∃ o', H' a = some o'
/-- .. the hidden ones stay -/
structure Ext (mu : Mu) (H : Hp) (mu' : Mu) (H' : Hp) : Prop where
  w : ExtW mu H mu' H'
  hid : ∀ a ∈ mu.hid, ∀ o, H a = some o → H' a = some o
theorem ExtW.refl : ExtW mu H mu H := ⟨⟨[], by simp, fun _ h => nomatch h⟩, fun _ h => h, fun _ h => .inl h, fun _ _ e _ => e, fun _ _ e => ⟨_, e⟩⟩
theorem Ext.refl : Ext mu H mu H := ⟨.refl, fun _ _ _ e => e⟩
theorem ExtW.out (x : ExtW mu H mu' H') {a : Addr} {o : HO} (e : H a = some o) (n : a ∉ mu.pl) : a ∉ mu'.pl := by
  obtain ⟨r, h, hr⟩ := x.pre
  rw [h]
  intro z
  rcases List.mem_append.mp z with z | z
  · exact n z
  · rw [hr a z] at e; cases e
theorem ExtW.notin (x : ExtW mu H mu' H') {a : Addr} {o : HO} (e : H a = some o) (n : mu.no a) : mu'.no a := by
  refine ⟨x.out e n.1, fun z => ?_⟩
  rcases x.new a z with z | z
  · exact n.2 z
  · rw [z] at e; cases e
theorem ExtW.none_of (x : ExtW mu H mu' H') {a : Addr} (h : H' a = none) : H a = none := by
  cases e : H a with
  | none => rfl
  | some o =>
    obtain ⟨o', e'⟩ := x.there a o e
    rw [h] at e'; cases e'
theorem ExtW.trans (x : ExtW mu H mu' H') (y : ExtW mu' H' mu2 H2) : ExtW mu H mu2 H2 := by
  refine ⟨?_, fun a h => y.old a (x.old a h), fun a h => ?_, fun a o e n => y.keep a o (x.keep a o e n) (x.notin e n), fun a o e => ?_⟩
  · obtain ⟨r, h, hr⟩ := x.pre
    obtain ⟨q, h2, hq⟩ := y.pre
    refine ⟨r ++ q, by rw [h2, h, List.append_assoc], fun a ha => ?_⟩
    rcases List.mem_append.mp ha with g | g
    · exact hr a g
    · exact x.none_of (hq a g)
  · rcases y.new a h with g | g
    · exact x.new a g
    · exact .inr (x.none_of g)
  · obtain ⟨o', e'⟩ := x.there a o e
    exact y.there a o' e'
theorem Ext.trans (x : Ext mu H mu' H') (y : Ext mu' H' mu2 H2) : Ext mu H mu2 H2 := ⟨x.w.trans y.w, fun a h o e => y.hid a (x.w.old a h) o (x.hid a h o e)⟩
theorem ExtW.at (x : ExtW mu H mu' H') {n : Nat} {a : Addr} (e : mu.pl[n]? = some a) : mu'.pl[n]? = some a := by
  obtain ⟨r, h, _⟩ := x.pre
  rw [h, List.getElem?_append_left (List.getElem?_eq_some_iff.mp e).1]; exact e
theorem Ext.at (x : Ext mu H mu' H') {n : Nat} {a : Addr} (e : mu.pl[n]? = some a) : mu'.pl[n]? = some a := x.w.at e
/-- a new object -/
theorem Ext.laid {p : Addr} {o : HO} (hp : H p = none) : Ext mu H mu (upd H p o) :=
  ⟨⟨⟨[], by simp, fun _ h => nomatch h⟩, fun _ h => h, fun _ h => .inl h, fun a u e _ => by rw [upd_ne (ne_of_none e hp)]; exact e, fun a u e => ⟨u, by rw [upd_ne (ne_of_none e hp)]; exact e⟩⟩, fun a _ u e => by rw [upd_ne (ne_of_none e hp)]; exact e⟩
theorem Ext.newAt {p : Addr} {o : HO} (hp : H p = none) : Ext mu H (mu.push p) (upd H p o) :=
  ⟨⟨⟨[p], rfl, fun a h => by rw [List.mem_singleton.mp h]; exact hp⟩, fun _ h => h, fun _ h => .inl h, fun a u e _ => by rw [upd_ne (ne_of_none e hp)]; exact e, fun a u e => ⟨u, by rw [upd_ne (ne_of_none e hp)]; exact e⟩⟩, fun a _ u e => by rw [upd_ne (ne_of_none e hp)]; exact e⟩
theorem Ext.write {p : Addr} {o : HO} (hp : p ∈ mu.pl) (hn : p ∉ mu.hid) : Ext mu H mu (upd H p o) :=
  ⟨⟨⟨[], by simp, fun _ h => nomatch h⟩, fun _ h => h, fun _ h => .inl h, fun a u e n => by rw [upd_ne (fun z => n.1 (by rw [z]; exact hp))]; exact e, fun a u e => by
    by_cases q : a = p
    · subst q; exact ⟨o, upd_same⟩
    · exact ⟨u, by rw [upd_ne q]; exact e⟩⟩, fun a h u e => by rw [upd_ne (fun z => hn (by rw [← z]; exact h))]; exact e⟩
theorem rd_keep {u : HO} {a : Addr} (x : ExtW mu H mu' H') (h : Rd H a u) (n : mu.no a) : Rd H' a u ∧ mu'.no a := by
  rcases h with h | ⟨o, h⟩
  · exact ⟨.inl (x.keep a _ h n), x.notin h n⟩
  · exact ⟨.inr ⟨o, x.keep a _ h n⟩, x.notin h n⟩
theorem TupAt.extW {a : Addr} {xs : List V} (x : ExtW mu H mu' H') (h : TupAt K mu H a xs) : TupAt K mu' H' a xs := by
  rcases h with ⟨h, n⟩ | h
  · exact .inl (rd_keep x h n)
  · exact .inr h
theorem ScrAt.extW {a : Addr} {xs : List V} (x : ExtW mu H mu' H') (h : ScrAt K mu H a xs) : ScrAt K mu' H' a xs := by
  rcases h with ⟨⟨o, h⟩, n⟩ | h
  · exact .inl ⟨⟨o, x.keep _ _ h n⟩, x.notin h n⟩
  · exact .inr h
theorem DctAt.keep {a : Addr} {ks : List D} {kv vv : List V} (h : DctAt w H a ks kv vv) (e : ∀ o, H a = some o → H' a = some o) : DctAt w H' a ks kv vv := by
  obtain ⟨o, es, ep, h1, h2⟩ := h
  exact ⟨o, es, ep, e _ h1, h2⟩
mutual
theorem Den.extW (x : ExtW mu H mu' H') : ∀ {v : V} {d : D}, Den w K mu H v d → Den w K mu' H' v d
  | _, _, .non => .non
  | _, _, .bl b => .bl b
  | _, _, .int i => .int i
  | _, _, .str s => .str s
  | _, _, .tup h r => .tup (h.extW x) (Dens.extW x r)
  | _, _, .lst h n r => .lst (x.keep _ _ h n) (x.notin h n) (Dens.extW x r)
  | _, _, .scr h => .scr (h.extW x)
  | _, _, .dct h n ok nd r q => by
    obtain ⟨o, es, ep, h1, h2⟩ := id h
    exact .dct (h.keep fun u e => x.keep _ u e n) (x.notin h1 n) ok nd (Dens.extW x r) (Dens.extW x q)
  | _, _, .ref h => .ref (x.at h)
theorem Dens.extW (x : ExtW mu H mu' H') : ∀ {xs : List V} {l : List D}, Dens w K mu H xs l → Dens w K mu' H' xs l
  | _, _, .nil => .nil
  | _, _, .cons h r => .cons (Den.extW x h) (Dens.extW x r)
end
theorem TupAt.ext {a : Addr} {xs : List V} (x : Ext mu H mu' H') (h : TupAt K mu H a xs) : TupAt K mu' H' a xs := h.extW x.w
theorem Den.ext (x : Ext mu H mu' H') {v : V} {d : D} (h : Den w K mu H v d) : Den w K mu' H' v d := Den.extW x.w h
theorem Dens.ext (x : Ext mu H mu' H') {xs : List V} {l : List D} (h : Dens w K mu H xs l) : Dens w K mu' H' xs l := Dens.extW x.w h
/-- an object of the store -/
def ObR (w : World) (K : PySem.W.Frag) (mu : Mu) (H : Hp) (a : Addr) : O → Prop
  | .lst l => ∃ xs, H a = some (.lst xs) ∧ Dens w K mu H xs l
  | .dct ks vs => ∃ kv vv, DctAt w H a ks kv vv ∧ okKeys ks = true ∧ kNodup ks ∧ Dens w K mu H kv ks ∧ Dens w K mu H vv vs
structure RSt (w : World) (K : PySem.W.Frag) (mu : Mu) (H : Hp) (st : Store) : Prop where
  len : mu.pl.length = st.length
  nd : mu.pl.Nodup
  ob : ∀ (i : Nat) (o : O), st[i]? = some o → ∃ a, mu.pl[i]? = some a ∧ ObR w K mu H a o
  hid : ∀ a ∈ mu.hid, a ∉ mu.pl ∧ ∃ u, H a = some u
def REn (w : World) (K : PySem.W.Frag) (mu : Mu) (H : Hp) (ρ : Env) (σ : L2.St) : Prop :=
  ∀ (i : Nat) (d : D), ρ[i]? = some (some d) → ∃ v, σ[i]? = some (some v) ∧ Den w K mu H v d
structure REs (w : World) (K : PySem.W.Frag) (mu : Mu) (H : Hp) (ρ : Env) (σ : L2.St) : Prop where
  len : ρ.length = σ.length
  rel : REn w K mu H ρ σ
theorem REs.extW {ρ : Env} {σ : L2.St} (x : ExtW mu H mu' H') (h : REs w K mu H ρ σ) : REs w K mu' H' ρ σ := ⟨h.len, fun i d e => by
  obtain ⟨v, e1, e2⟩ := h.rel i d e
  exact ⟨v, e1, e2.extW x⟩⟩
theorem REs.ext {ρ : Env} {σ : L2.St} (x : Ext mu H mu' H') (h : REs w K mu H ρ σ) : REs w K mu' H' ρ σ := h.extW x.w
theorem REs.set {ρ : Env} {σ : L2.St} {i : Nat} {v : V} {d : D} (h : REs w K mu H ρ σ) (hd : Den w K mu H v d) : REs w K mu H (ρ.set i (some d)) (σ.set i (some v)) := by
  refine ⟨by simp [h.len], fun j d' e => ?_⟩
  by_cases q : i = j
  · subst q
    by_cases hl : i < ρ.length
    · rw [List.getElem?_set_self hl] at e
      cases e
      exact ⟨v, List.getElem?_set_self (h.len ▸ hl), hd⟩
    · rw [List.getElem?_eq_none (by simpa using hl)] at e; cases e
  · rw [List.getElem?_set_ne q] at e
    obtain ⟨u, e1, e2⟩ := h.rel j d' e
    exact ⟨u, by rw [List.getElem?_set_ne q]; exact e1, e2⟩
theorem REs.wipe {ρ : Env} {σ : L2.St} (h : REs w K mu H ρ σ) : ∀ vs : List Nat, REs w K mu H (wipeD ρ vs) (L2.wipe σ vs)
  | [] => h
  | v :: vs => by
    have ih := h.wipe vs
    refine ⟨by simp [wipeD, L2.wipe, ih.len], fun j d e => ?_⟩
    have e' : ((wipeD ρ vs).set v none)[j]? = some (some d) := e
    by_cases q : v = j
    · subst q
      by_cases hl : v < (wipeD ρ vs).length
      · rw [List.getElem?_set_self hl] at e'; cases e'
      · rw [List.getElem?_eq_none (by simpa using hl)] at e'; cases e'
    · rw [List.getElem?_set_ne q] at e'
      obtain ⟨u, e1, e2⟩ := ih.rel j d e'
      refine ⟨u, ?_, e2⟩
      show ((L2.wipe σ vs).set v none)[j]? = _
      rw [List.getElem?_set_ne q]; exact e1
/-! ### answers of the interpreter, met by the heap -/
abbrev WD := Str → List D → Store → Mu → Hp → Prop
section
variable (w : World) (K : PySem.W.Frag)
def run {α : Type} (r : Res α) (mu : Mu) (H : Hp) (W : WD) (Q : α → Store → Mu → Hp → Prop) : Prop := match r with
  | .ok a st => ∀ mu' H', Ext mu H mu' H' → RSt w K mu' H' st → Q a st mu' H'
  | .err c as st => ∀ mu' H', Ext mu H mu' H' → RSt w K mu' H' st → W c as st mu' H'
  | .bad => False
end
theorem run_ext {α : Type} {r : Res α} {W : WD} {Q : α → Store → Mu → Hp → Prop} (h : run w K r mu H W Q) (x : Ext mu H mu' H') : run w K r mu' H' W Q := by
  cases r with
  | ok a st => exact fun m2 H2 y R => h m2 H2 (x.trans y) R
  | err c as st => exact fun m2 H2 y R => h m2 H2 (x.trans y) R
  | bad => exact h
theorem run_mono {α : Type} {r : Res α} {W : WD} {Q Q' : α → Store → Mu → Hp → Prop} (h : run w K r mu H W Q) (k : ∀ a st mu' H', Ext mu H mu' H' → RSt w K mu' H' st → Q a st mu' H' → Q' a st mu' H') : run w K r mu H W Q' := by
  cases r with
  | ok a st => exact fun m2 H2 y R => k _ _ _ _ y R (h m2 H2 y R)
  | err c as st => exact h
  | bad => exact h
theorem run_bind {α β : Type} {x : M α} {f : α → M β} {st : Store} {W : WD} {Q : β → Store → Mu → Hp → Prop} (h : run w K ((x >>= f) st) mu H W Q) :
    run w K (x st) mu H W fun a st1 mu1 H1 => run w K (f a st1) mu1 H1 W Q := by
  rw [bind_def] at h
  cases e : x st with
  | ok a st1 =>
    rw [e] at h
    exact fun m2 H2 y R => run_ext h y
  | err c as st1 => rw [e] at h; exact h
  | bad => rw [e] at h; exact h
theorem run_ok {α : Type} {a : α} {st : Store} {W : WD} {Q : α → Store → Mu → Hp → Prop} (h : run w K (.ok a st) mu H W Q) (R : RSt w K mu H st) : Q a st mu H := h mu H .refl R
/-- the end of an expression -/
def QV (w : World) (K : PySem.W.Frag) (Q : VK) : D → Store → Mu → Hp → Prop := fun d _ mu H => ∀ v, Den w K mu H v d → Q v H
/-- what an exception is, met by the heap -/
def XR (K : PySem.W.Frag) (c : Str) (as : List D) (cls : Value) (dd : Option Addr) : Prop := cls = .ref (He.ga K c) ∧ as = [] ∧ dd = none
abbrev WS := L2.St → WD
/-- an expression's reading by the interpreter's answer -/
def tE (w : World) (K : PySem.W.Frag) (x : Env → M D) (W : WS) : TE := fun σ H Q => ∃ ρ st mu, REs w K mu H ρ σ ∧ RSt w K mu H st ∧ run w K (x ρ st) mu H (W σ) (QV w K Q)
/-- a test's -/
def tT (w : World) (K : PySem.W.Frag) (x : Env → M Bool) (W : WS) : TT := fun σ H Q => ∃ ρ st mu, REs w K mu H ρ σ ∧ RSt w K mu H st ∧ run w K (x ρ st) mu H (W σ) (fun b _ _ H' => Q b H')
/-- arguments' -/
def tA (w : World) (K : PySem.W.Frag) (x : Env → M (List D)) (W : WS) : TA := fun σ H Q => ∃ ρ st mu, REs w K mu H ρ σ ∧ RSt w K mu H st ∧ run w K (x ρ st) mu H (W σ) (fun l _ mu' H' => ∀ vs, Dens w K mu' H' vs l → Q vs H')
/-- the end of a statement -/
def srun (w : World) (K : PySem.W.Frag) (r : SRes) (mu : Mu) (H : Hp) (W : WS) (D : Ends) : Prop := match r with
  | .ok .nx ρ st => ∀ mu' H' σ', Ext mu H mu' H' → RSt w K mu' H' st → REs w K mu' H' ρ σ' → D.nx σ' H'
  | .ok (.rt d) _ st => ∀ mu' H' v, Ext mu H mu' H' → RSt w K mu' H' st → Den w K mu' H' v d → D.rt v H'
  | .err c as ρ st => ∀ mu' H' σ', Ext mu H mu' H' → RSt w K mu' H' st → REs w K mu' H' ρ σ' → W σ' c as st mu' H'
  | .bad => False
def tS (w : World) (K : PySem.W.Frag) (b : Env → Store → SRes) (W : WS) : TS := fun D σ H => ∃ ρ st mu, REs w K mu H ρ σ ∧ RSt w K mu H st ∧ srun w K (b ρ st) mu H W D
theorem srun_ext {r : SRes} {W : WS} {D : Ends} (h : srun w K r mu H W D) (x : Ext mu H mu' H') : srun w K r mu' H' W D := by
  cases r with
  | ok f ρ st => cases f with
    | nx => exact fun m2 H2 s y R E => h m2 H2 s (x.trans y) R E
    | rt d => exact fun m2 H2 s y R E => h m2 H2 s (x.trans y) R E
  | err c as ρ st => exact fun m2 H2 s y R E => h m2 H2 s (x.trans y) R E
  | bad => exact h
/-- an expression's answer within a statement -/
theorem run_ofM {α : Type} {x : M α} {ρ : Env} {k : α → Store → SRes} {st : Store} {σ : L2.St} {W : WS} {D : Ends} (h : srun w K (ofM x ρ k st) mu H W D) (E : REs w K mu H ρ σ) :
    run w K (x st) mu H (W σ) fun a st1 mu1 H1 => srun w K (k a st1) mu1 H1 W D := by
  unfold ofM at h
  cases e : x st with
  | ok a st1 => rw [e] at h; exact fun m2 H2 y R => srun_ext h y
  | err c as st1 => rw [e] at h; exact fun m2 H2 y R => h m2 H2 σ y R (E.ext y)
  | bad => rw [e] at h; exact h
theorem srun_next {r : SRes} {k : Env → Store → SRes} {W : WS} {D : Ends} (h : srun w K (r.next k) mu H W D) :
    srun w K r mu H W { D with nx := fun σ' H' => ∃ mu' st', Ext mu H mu' H' ∧ ∃ ρ', RSt w K mu' H' st' ∧ REs w K mu' H' ρ' σ' ∧ srun w K (k ρ' st') mu' H' W D } := by
  cases r with
  | ok f ρ st => cases f with
    | nx => exact fun m2 H2 s y R E => ⟨m2, st, y, ρ, R, E, srun_ext h y⟩
    | rt d => exact h
  | err c as ρ st => exact h
  | bad => exact h
end
/-! ### readings made weaker -/
section
variable {X : Cx} {e : Expr} {st : Stmt} {sts : List Stmt}
theorem _root_.L2.PE.imp {t t' : TE} (h : PE X e t) (k : ∀ σ H Q, t' σ H Q → t σ H Q) : PE X e t' := ⟨fun pins s σ H Q I q => h.run pins s σ H Q I (k σ H Q q)⟩
theorem _root_.L2.PT.imp {t t' : TT} (h : PT X e t) (k : ∀ σ H Q, t' σ H Q → t σ H Q) : PT X e t' := ⟨fun pins s σ H Q I q => h.run pins s σ H Q I (k σ H Q q)⟩
theorem _root_.L2.PA.imp {es : List Expr} {t t' : TA} (h : PA X es t) (k : ∀ σ H Q, t' σ H Q → t σ H Q) : PA X es t' := ⟨fun pos pins s σ H Q I q => h.run pos pins s σ H Q I (k σ H Q q)⟩
theorem _root_.L2.PS.imp {t t' : TS} (h : PS X st t) (k : ∀ D σ H, t' D σ H → t D σ H) : PS X st t' := ⟨fun pins s σ H D I q => h.run pins s σ H D I (k D σ H q)⟩
theorem _root_.L2.PSs.imp {t t' : TS} (h : PSs X sts t) (k : ∀ D σ H, t' D σ H → t D σ H) : PSs X sts t' := ⟨fun pins s σ H D I q => h.run pins s σ H D I (k D σ H q)⟩
end
end PI
set_option Elab.async false
set_option linter.all false
set_option maxRecDepth 100000
set_option maxHeartbeats 4000000
/-! PI, part C: operators, built-ins and methods by values. -/
namespace PI
open PySem PySem.Spec PyProof.Rows L2
section
variable {w : World} {K : PySem.W.Frag} {mu mu' : Mu} {H H' : Hp} {st : Store}
/-! ### the store's relation kept -/
theorem ObR.same {a : Addr} {o : O} (h : ObR w K mu H a o) (e : ∀ u, H a = some u → H' a = some u) (x : ∀ {xs : List V} {l : List D}, Dens w K mu H xs l → Dens w K mu' H' xs l) : ObR w K mu' H' a o := by
  cases o with
  | lst l =>
    obtain ⟨xs, h1, h2⟩ := h
    exact ⟨xs, e _ h1, x h2⟩
  | dct ks vs =>
    obtain ⟨kv, vv, h1, h2, h3, h4, h5⟩ := h
    exact ⟨kv, vv, h1.keep e, h2, h3, x h4, x h5⟩
theorem ObR.some {a : Addr} {o : O} (h : ObR w K mu H a o) : ∃ u, H a = some u := by
  cases o with
  | lst l => obtain ⟨xs, h1, _⟩ := h; exact ⟨_, h1⟩
  | dct ks vs => obtain ⟨kv, vv, ⟨o, es, ep, h1, _⟩, _⟩ := h; exact ⟨_, h1⟩
theorem RSt.mem (R : RSt w K mu H st) {a : Addr} (h : a ∈ mu.pl) : ∃ u, H a = some u := by
  obtain ⟨i, hi, e⟩ := List.mem_iff_getElem.mp h
  have hl : i < st.length := by rw [← R.len]; exact hi
  obtain ⟨a', e1, e2⟩ := R.ob i st[i] (List.getElem?_eq_getElem hl)
  have : a' = a := by
    rw [List.getElem?_eq_getElem hi, e] at e1
    exact (Option.some.inj e1).symm
  subst this
  exact e2.some
theorem RSt.fresh (R : RSt w K mu H st) {p : Addr} (hp : H p = none) : mu.no p := by
  refine ⟨fun z => ?_, fun z => ?_⟩
  · obtain ⟨u, e⟩ := R.mem z
    rw [hp] at e; cases e
  · obtain ⟨_, u, e⟩ := R.hid p z
    rw [hp] at e; cases e
theorem RSt.new (R : RSt w K mu H st) {p : Addr} {o : HO} (hp : H p = none) : RSt w K mu (upd H p o) st := ⟨R.len, R.nd, fun i u e => by
  obtain ⟨a, e1, e2⟩ := R.ob i u e
  exact ⟨a, e1, e2.same (fun v q => by rw [upd_ne (ne_of_none q hp)]; exact q) fun q => Dens.ext (Ext.laid hp) q⟩, fun a ha => by
  obtain ⟨h1, u, h2⟩ := R.hid a ha
  exact ⟨h1, u, by rw [upd_ne (ne_of_none h2 hp)]; exact h2⟩⟩
theorem RSt.push (R : RSt w K mu H st) {p : Addr} {o : HO} {u : O} (hp : H p = none) (h : ObR w K (mu.push p) (upd H p o) p u) : RSt w K (mu.push p) (upd H p o) (st ++ [u]) := by
  refine ⟨by simp [Mu.push, R.len], ?_, fun i v e => ?_, fun a ha => ?_⟩
  · show (mu.pl ++ [p]).Nodup
    rw [List.nodup_append]
    refine ⟨R.nd, by simp, fun a ha b hb => ?_⟩
    rw [List.mem_singleton.mp hb]
    rintro rfl
    exact (R.fresh hp).1 ha
  · show ∃ a, (mu.pl ++ [p])[i]? = some a ∧ _
    by_cases hi : i < st.length
    · rw [List.getElem?_append_left hi] at e
      obtain ⟨a, e1, e2⟩ := R.ob i v e
      refine ⟨a, by rw [List.getElem?_append_left (by rw [R.len]; exact hi)]; exact e1, e2.same (fun v q => by rw [upd_ne (ne_of_none q hp)]; exact q) fun q => Dens.ext (Ext.newAt hp) q⟩
    · have hi' : i = st.length := by
        have := (List.getElem?_eq_some_iff.mp e).1
        simp at this; omega
      subst hi'
      rw [List.getElem?_append_right (Nat.le_refl _)] at e
      simp at e
      subst e
      exact ⟨p, by rw [← R.len, List.getElem?_append_right (Nat.le_refl _)]; simp, h⟩
  · obtain ⟨h1, u, h2⟩ := R.hid a ha
    refine ⟨fun z => ?_, u, by rw [upd_ne (ne_of_none h2 hp)]; exact h2⟩
    rcases List.mem_append.mp (show a ∈ mu.pl ++ [p] from z) with z | z
    · exact h1 z
    · rw [List.mem_singleton.mp z, hp] at h2; cases h2
theorem RSt.nhid (R : RSt w K mu H st) {a : Addr} (h : a ∈ mu.pl) : a ∉ mu.hid := fun z => (R.hid a z).1 h
theorem RSt.write (R : RSt w K mu H st) {n : Nat} {a : Addr} {o : HO} {u : O} (e : mu.pl[n]? = some a) (h : ObR w K mu (upd H a o) a u) : RSt w K mu (upd H a o) (st.set n u) := by
  have ha : a ∈ mu.pl := List.mem_of_getElem? e
  refine ⟨by simp [R.len], R.nd, fun i v q => ?_, fun b hb => ?_⟩
  · by_cases hi : n = i
    · subst hi
      have hl : n < st.length := by rw [← R.len]; exact (List.getElem?_eq_some_iff.mp e).1
      rw [List.getElem?_set_self hl] at q
      cases q
      exact ⟨a, e, h⟩
    · rw [List.getElem?_set_ne hi] at q
      obtain ⟨b, e1, e2⟩ := R.ob i v q
      have hb : b ≠ a := by
        rintro rfl
        obtain ⟨h1, g1⟩ := List.getElem?_eq_some_iff.mp e1
        obtain ⟨h2, g2⟩ := List.getElem?_eq_some_iff.mp e
        exact hi ((List.getElem_inj R.nd).mp (g2.trans g1.symm))
      exact ⟨b, e1, e2.same (fun v q => by rw [upd_ne hb]; exact q) fun q => Dens.ext (Ext.write ha (R.nhid ha)) q⟩
  · obtain ⟨h1, u, h2⟩ := R.hid b hb
    exact ⟨h1, u, by rw [upd_ne (fun z => h1 (by rw [z]; exact ha))]; exact h2⟩
theorem RSt.at (R : RSt w K mu H st) {n : Nat} {a : Addr} {o : O} (e : mu.pl[n]? = some a) (q : st[n]? = some o) : ObR w K mu H a o := by
  obtain ⟨b, e1, e2⟩ := R.ob n o q
  rw [e] at e1; cases e1; exact e2
/-! ### pieces -/
variable {W : WD}
theorem run_pure {α : Type} {a : α} {Q : α → Store → Mu → Hp → Prop} (h : run w K ((M.pure a : M α) st) mu H W Q) (R : RSt w K mu H st) : Q a st mu H := run_ok h R
theorem run_mof {α : Type} {o : Option α} {Q : α → Store → Mu → Hp → Prop} (h : run w K (mof o st) mu H W Q) (R : RSt w K mu H st) : ∃ a, o = some a ∧ Q a st mu H := by
  cases o with
  | none => exact h.elim
  | some a => exact ⟨a, rfl, run_pure h R⟩
theorem run_asL {d : D} {v : V} {Q : List D → Store → Mu → Hp → Prop} (hd : Den w K mu H v d) (R : RSt w K mu H st) (h : run w K (asL d st) mu H W Q) :
    ∃ a xs l, v = .ref a ∧ H a = some (.lst xs) ∧ Dens w K mu H xs l ∧ Q l st mu H := by
  cases hd with
  | lst h1 n r => exact ⟨_, _, _, rfl, h1, r, run_ok h R⟩
  | @ref a n e =>
    unfold asL at h
    dsimp only at h
    cases q : st[n]? with
    | none => rw [q] at h; exact h.elim
    | some o =>
      rw [q] at h
      cases o with
      | lst l =>
        obtain ⟨xs, h1, h2⟩ := R.at e q
        exact ⟨a, xs, l, rfl, h1, h2, run_ok h R⟩
      | dct k v => exact h.elim
  | _ => exact h.elim
theorem run_asS {d : D} {v : V} {Q : List D → Store → Mu → Hp → Prop} (hd : Den w K mu H v d) (R : RSt w K mu H st) (h : run w K (asS d st) mu H W Q) :
    ∃ a xs l, v = .ref a ∧ (SqL K H a xs ∨ SqT K H a xs) ∧ Dens w K mu H xs l ∧ Q l st mu H := by
  cases hd with
  | tup h1 r => exact ⟨_, _, _, rfl, .inr h1.sq, r, run_ok h R⟩
  | lst h1 n r => exact ⟨_, _, _, rfl, .inl (SqL.of h1), r, run_ok h R⟩
  | @ref a n e =>
    unfold asS at h
    dsimp only at h
    cases q : st[n]? with
    | none => rw [q] at h; exact h.elim
    | some o =>
      rw [q] at h
      cases o with
      | lst l =>
        obtain ⟨xs, h1, h2⟩ := R.at e q
        exact ⟨a, xs, l, rfl, .inl (SqL.of h1), h2, run_ok h R⟩
      | dct k v => exact h.elim
  | _ => exact h.elim
theorem run_newL {m : Bool} {l : List D} {xs : List V} {Q : VK} (h : run w K (newL m l st) mu H W (QV w K Q)) (R : RSt w K mu H st) (r : Dens w K mu H xs l) : l.length ≤ sizeLine ∧ ∀ p, H p = none → Q (.ref p) (upd H p (.lst xs)) := by
  unfold newL at h
  split at h
  · rename_i hz
    refine ⟨hz, fun p hp => ?_⟩
    split at h
    · refine h (mu.push p) (upd H p (.lst xs)) (Ext.newAt hp) (R.push hp ⟨xs, upd_same, Dens.ext (Ext.newAt hp) r⟩) _ (.ref ?_)
      show (mu.pl ++ [p])[st.length]? = some p
      rw [← R.len, List.getElem?_append_right (Nat.le_refl _)]; simp
    · exact h mu (upd H p (.lst xs)) (Ext.laid hp) (R.new hp) _ (.lst upd_same (R.fresh hp) (Dens.ext (Ext.laid hp) r))
  · exact h.elim
/-- a new tuple -/
theorem new_tup {l : List D} {xs : List V} {Q : VK} {st' : Store} (h : run w K (.ok (.tup l) st) mu H W (QV w K Q)) (R : RSt w K mu H st) (r : Dens w K mu H xs l) : ∀ p, H p = none → Q (.ref p) (upd H p (.tup xs)) := fun p hp =>
  h mu (upd H p (.tup xs)) (Ext.laid hp) (R.new hp) _ (.tup (.inl ⟨.inl upd_same, R.fresh hp⟩) (Dens.ext (Ext.laid hp) r))
theorem Dens.ints : ∀ {xs : List V} {l : List D} {ns : List Int}, Dens w K mu H xs l → toInts l = some ns → xs = ns.map V.int
  | _, _, ns, .nil, e => by cases e; rfl
  | _, _, ns, .cons (d := d) (l := l) h r, e => by
    cases d with
    | int i =>
      cases h
      have e2 : (toInts l).map (i :: ·) = some ns := e
      cases q : toInts l with
      | none => rw [q] at e2; cases e2
      | some ms => rw [q] at e2; cases e2; rw [r.ints q]; rfl
    | _ => cases e
theorem Dens.bools : ∀ {xs : List V} {l : List D} {ns : List Bool}, Dens w K mu H xs l → toBools l = some ns → xs = ns.map V.bl
  | _, _, ns, .nil, e => by cases e; rfl
  | _, _, ns, .cons (d := d) (l := l) h r, e => by
    cases d with
    | bl i =>
      cases h
      have e2 : (toBools l).map (i :: ·) = some ns := e
      cases q : toBools l with
      | none => rw [q] at e2; cases e2
      | some ms => rw [q] at e2; cases e2; rw [r.bools q]; rfl
    | _ => cases e
/-! ### data for == -/
theorem b2i_if (b : Bool) : (if b then 1 else 0 : Int) = b2i b := by cases b <;> rfl
mutual
theorem py_eqv : ∀ (a b : D) (n m : Nat), a.fitN n = true → b.fitN m = true → PyData.eqv (py a) (py b) = D.eqv a b
  | .non, b, _, _, _, hb => by cases b <;> first | rfl | exact nomatch hb
  | .bl x, b, _, _, _, hb => by
    cases b with
    | int j => show ((if x then 1 else 0 : Int) == j) = (b2i x == j); rw [b2i_if]
    | dct _ _ => exact nomatch hb
    | ref _ => exact nomatch hb
    | scr _ => exact nomatch hb
    | _ => rfl
  | .int x, b, _, _, _, hb => by
    cases b with
    | bl j => show (x == (if j then 1 else 0 : Int)) = (x == b2i j); rw [b2i_if]
    | dct _ _ => exact nomatch hb
    | ref _ => exact nomatch hb
    | scr _ => exact nomatch hb
    | _ => rfl
  | .str x, b, _, _, _, hb => by
    cases b with
    | str y => show (x == y) = decide (x = y); by_cases h : x = y <;> simp [h]
    | dct _ _ => exact nomatch hb
    | ref _ => exact nomatch hb
    | scr _ => exact nomatch hb
    | _ => rfl
  | .tup l, b, n, m, ha, hb => by
    cases b with
    | tup r =>
      cases n with
      | zero => exact nomatch ha
      | succ n => cases m with
        | zero => exact nomatch hb
        | succ m => exact py_eqvL l r n m ha hb
    | dct _ _ => exact nomatch hb
    | ref _ => exact nomatch hb
    | scr _ => exact nomatch hb
    | _ => rfl
  | .lst l, b, n, m, ha, hb => by
    cases b with
    | lst r =>
      cases n with
      | zero => exact nomatch ha
      | succ n => cases m with
        | zero => exact nomatch hb
        | succ m => exact py_eqvL l r n m ha hb
    | dct _ _ => exact nomatch hb
    | ref _ => exact nomatch hb
    | scr _ => exact nomatch hb
    | _ => rfl
  | .dct _ _, _, _, _, ha, _ => nomatch ha
  | .ref _, _, _, _, ha, _ => nomatch ha
  | .scr _, _, _, _, ha, _ => nomatch ha
theorem py_eqvL : ∀ (a b : List D) (n m : Nat), D.fitL a n = true → D.fitL b m = true → PyData.eqvAll (pys a) (pys b) = D.eqvL a b
  | [], [], _, _, _, _ => rfl
  | [], _ :: _, _, _, _, _ => rfl
  | _ :: _, [], _, _, _, _ => rfl
  | x :: r, y :: s, n, m, ha, hb => by
    obtain ⟨h1, h2⟩ := Bool.and_eq_true_iff.mp (show (x.fitN n && D.fitL r n) = true from ha)
    obtain ⟨h3, h4⟩ := Bool.and_eq_true_iff.mp (show (y.fitN m && D.fitL s m) = true from hb)
    show (PyData.eqv (py x) (py y) && PyData.eqvAll (pys r) (pys s)) = (D.eqv x y && D.eqvL r s)
    rw [py_eqv x y n m h1 h3, py_eqvL r s n m h2 h4]
end
mutual
theorem py_can : ∀ (a : D) (n : Nat), a.fitN n = true → (py a).canLay0 = true ∧ (py a).depth ≤ n + 1
  | .non, _, _ => ⟨rfl, by simp [py, PyData.depth]⟩
  | .bl _, _, _ => ⟨rfl, by simp [py, PyData.depth]⟩
  | .int _, _, _ => ⟨rfl, by simp [py, PyData.depth]⟩
  | .str _, _, h => ⟨h, by simp [py, PyData.depth]⟩
  | .tup l, n, h => by
    cases n with
    | zero => exact nomatch h
    | succ n =>
      obtain ⟨h1, h2⟩ := py_canL l n h
      exact ⟨h1, by simp only [py, PyData.depth]; omega⟩
  | .lst l, n, h => by
    cases n with
    | zero => exact nomatch h
    | succ n =>
      obtain ⟨h1, h2⟩ := py_canL l n h
      exact ⟨h1, by simp only [py, PyData.depth]; omega⟩
  | .dct _ _, _, h => nomatch h
  | .ref _, _, h => nomatch h
  | .scr _, _, h => nomatch h
theorem py_canL : ∀ (a : List D) (n : Nat), D.fitL a n = true → PyData.canLayAll0 (pys a) = true ∧ PyData.depthAll (pys a) ≤ n + 1
  | [], _, _ => ⟨rfl, by simp [pys, PyData.depthAll]⟩
  | x :: r, n, h => by
    obtain ⟨h1, h2⟩ := Bool.and_eq_true_iff.mp (show (x.fitN n && D.fitL r n) = true from h)
    obtain ⟨a1, a2⟩ := py_can x n h1
    obtain ⟨b1, b2⟩ := py_canL r n h2
    refine ⟨Bool.and_eq_true_iff.mpr ⟨a1, b1⟩, ?_⟩
    simp only [pys, PyData.depthAll]
    omega
end
end
end PI
set_option Elab.async false
set_option linter.all false
set_option maxRecDepth 100000
set_option maxHeartbeats 4000000
/-! PI, part D: the operators' rules. -/
namespace PI
open PySem PySem.Spec PyProof.Rows L2
/-! ### rules that the layer lacks -/
theorem tuple_mul1 (l : Addr) (items : Array Value) (n : Nat) (dd : Option Addr) (sl : Array (Option Value)) (u : Tok) :
    Meets (Builtin.«tuple.__mul__» ⟨[.ref l, .int 1 u], []⟩) (fun _ R s => s.heap.get? l = some { cls := .type "tuple", dict := dd, data := .seq items n, slots := sl } ∧ R (.ok (.ret (Value.ref l))) s) :=
  .of_wp fun prog w A R s h => by
    obtain ⟨hp, g, d, tk, os⟩ := s
    obtain ⟨hl, h⟩ := h
    have f1 := AutoSeq1.idx_int
    have c0 : (decide ((1 : Int) < -(2 ^ 63)) || decide ((1 : Int) ≥ 2 ^ 63)) = false := by decide
    have c1 : (items.isEmpty || (1 : Int) == 1) = true := by simp
    wp_walk using wpAny_loadPart' hl
    repeat (first
      | (refine wpAny_ite_false (decide_eq_false (by rw [c0]; exact Bool.false_ne_true)) ?_; wp_walk using wpAny_loadPart' hl)
      | (refine wpAny_ite_true (decide_eq_true c1) ?_; wp_walk using wpAny_loadPart' hl))
    exact ⟨_, rfl, h⟩
def rRepT1 (K : PySem.W.Frag) : R2 := fun x y H Q => ∃ l xs, x = .ref l ∧ y = .int 1 ∧ SqT K H l xs ∧ Q (.ref l) H
section
variable {X : Cx}
theorem op_repT1 : OpR X (binaryOp .Mult) (rRepT1 X.K) := by
  intro pins s σ H x y v u Q I rx ry h
  obtain ⟨l, xs, rfl, rfl, hT, q⟩ := h
  cases rx
  obtain ⟨t, rfl⟩ := ry
  obtain ⟨its, r, ⟨⟨cls, dd, data, sl⟩, ho, hc, n, hd⟩, hs⟩ := I.tuple hT
  simp only at hc hd
  subst hc hd
  refine wpAny_binaryOp_repeat_ref (T := "tuple") (U := "int") (by decide) ⟨_, ho, rfl⟩ (fun s' => typeIs_int s' 1 t) noFill_tuple_mul F.fills_int_mul F.slot_int_rmul repeat_tuple F.slot_int_index.lookup
    (call_meets F.slot_int_rmul (typeIs_int s 1 t) F.entry_int_rmul (F.args_int_rmul_2 _ _) (int_rmul_tuple 1 t l its.toArray n dd sl)
      ⟨ho, rfl, ⟨_, ho, rfl⟩, call_meets F.slot_tuple_mul ⟨_, ho, rfl⟩ F.entry_tuple_mul (F.args_tuple_mul_2 _ _) (tuple_mul1 l its.toArray n dd sl t) ⟨ho, ?_⟩⟩)
  exact ⟨.ref l, H, I, rfl, q⟩
end
/-! ### operators by the interpreter's answer -/
section
variable (X : Cx)
def rOp (g : D → D → M D) : R2 := fun x y H Q => ∃ mu st d e W, Den X.w X.K mu H x d ∧ Den X.w X.K mu H y e ∧ RSt X.w X.K mu H st ∧ run X.w X.K (g d e st) mu H W (QV X.w X.K Q)
def rOpB (g : D → D → M Bool) : R2 := fun x y H Q => ∃ mu st d e W, Den X.w X.K mu H x d ∧ Den X.w X.K mu H y e ∧ RSt X.w X.K mu H st ∧ run X.w X.K (g d e st) mu H W (fun b _ _ H' => Q (.bl b) H')
end
section
variable {X : Cx} {m : Bool}
theorem rOp_bad {W : WD} {mu : Mu} {H : Hp} {Q : D → Store → Mu → Hp → Prop} {st : Store} (h : run X.w X.K ((mbad : M D) st) mu H W Q) : False := h
theorem opD_add : OpR X (binaryOp .Add) (rOp X (op2 m .add)) := by
  intro pins s σ H x y v u Q I rx ry h
  obtain ⟨mu, st, d, e, W, hd, he, R, h⟩ := h
  have lists : ∀ {d e : D}, Den X.w X.K mu H x d → Den X.w X.K mu H y e → run X.w X.K ((do let a ← asL d; let b ← asL e; newL m (a ++ b) : M D) st) mu H W (QV X.w X.K Q) → wpAny (model X.prog X.w) X.A (binaryOp .Add v u) (EP X pins σ Q) X.xe s := fun {d e} hd he h => by
    obtain ⟨a, xs, l, rfl, h1, r1, h⟩ := run_asL hd R (run_bind h)
    obtain ⟨b, ys, l2, rfl, h2, r2, h⟩ := run_asL he R (run_bind h)
    obtain ⟨hz, q⟩ := run_newL h R (r1.append r2)
    exact op_cat pins s σ H _ _ v u Q I rx ry ⟨a, b, xs, ys, rfl, rfl, h1, h2, by rw [r1.length, r2.length]; simpa using hz, q⟩
  cases hd with
  | int i => cases he with
    | int j => exact op_add pins s σ H _ _ v u Q I rx ry ⟨i, j, rfl, rfl, run_pure h R _ (.int _)⟩
    | non => exact (run_bind h : run X.w X.K (asL (D.int i) st) mu H W _).elim
    | bl _ => exact (run_bind h : run X.w X.K (asL (D.int i) st) mu H W _).elim
    | str _ => exact (run_bind h : run X.w X.K (asL (D.int i) st) mu H W _).elim
    | tup _ _ => exact (run_bind h : run X.w X.K (asL (D.int i) st) mu H W _).elim
    | lst _ _ _ => exact (run_bind h : run X.w X.K (asL (D.int i) st) mu H W _).elim
    | dct _ _ _ _ _ _ => exact (run_bind h : run X.w X.K (asL (D.int i) st) mu H W _).elim
    | ref _ => exact (run_bind h : run X.w X.K (asL (D.int i) st) mu H W _).elim
    | scr _ => exact (run_bind h : run X.w X.K (asL (D.int i) st) mu H W _).elim
  | str i => cases he with
    | str j =>
      have h' : run X.w X.K ((if i.length + j.length ≤ sizeLine then .ok (.str (i ++ j)) st else .bad : Res D)) mu H W (QV X.w X.K Q) := h
      split at h'
      · rename_i hz
        exact op_add_str pins s σ H _ _ v u Q I rx ry ⟨i, j, rfl, rfl, hz, run_ok h' R _ (.str _)⟩
      · exact h'.elim
    | non => exact (run_bind h : run X.w X.K (asL (D.str i) st) mu H W _).elim
    | bl _ => exact (run_bind h : run X.w X.K (asL (D.str i) st) mu H W _).elim
    | int _ => exact (run_bind h : run X.w X.K (asL (D.str i) st) mu H W _).elim
    | tup _ _ => exact (run_bind h : run X.w X.K (asL (D.str i) st) mu H W _).elim
    | lst _ _ _ => exact (run_bind h : run X.w X.K (asL (D.str i) st) mu H W _).elim
    | dct _ _ _ _ _ _ => exact (run_bind h : run X.w X.K (asL (D.str i) st) mu H W _).elim
    | ref _ => exact (run_bind h : run X.w X.K (asL (D.str i) st) mu H W _).elim
    | scr _ => exact (run_bind h : run X.w X.K (asL (D.str i) st) mu H W _).elim
  | @tup a xs l h1 r1 => cases he with
    | @tup b ys l2 h2 r2 =>
      have h' : run X.w X.K ((if l.length ≤ sizeLine ∧ l2.length ≤ sizeLine ∧ l.length + l2.length ≤ sizeLine then .ok (.tup (l ++ l2)) st else .bad : Res D)) mu H W (QV X.w X.K Q) := h
      split at h'
      · rename_i hz
        refine op_catA pins s σ H _ _ v u Q I rx ry ⟨a, b, xs, ys, rfl, rfl, h1.sq, h2.sq, by rw [r1.length, r2.length]; exact hz.2.2, fun e => ?_, fun n e => ?_, fun n n2 => ?_⟩
        · subst e
          cases r1
          exact run_ok h' R _ (.tup h2 r2)
        · subst e
          cases r2
          rw [List.append_nil] at h'
          exact run_ok h' R _ (.tup h1 r1)
        · exact new_tup (st' := st) h' R (r1.append r2)
      · exact h'.elim
    | non => exact h.elim
    | bl _ => exact h.elim
    | int _ => exact h.elim
    | str _ => exact h.elim
    | lst _ _ _ => exact h.elim
    | dct _ _ _ _ _ _ => exact h.elim
    | ref _ => exact h.elim
    | scr _ => exact h.elim
  | non => exact (run_bind h : run X.w X.K (asL D.non st) mu H W _).elim
  | bl b => exact (run_bind h : run X.w X.K (asL (D.bl b) st) mu H W _).elim
  | lst h1 n r => exact lists (.lst h1 n r) he h
  | ref h1 => exact lists (.ref h1) he h
  | dct h1 n ok nd r q => exact (run_bind h : run X.w X.K (asL (D.dct _ _) st) mu H W _).elim
  | scr h1 => exact (run_bind h : run X.w X.K (asL (D.scr _) st) mu H W _).elim
/-- an operator of two numbers alone -/
theorem opD_int {op : Op2} {f : Value → Value → Sem Value} {C : Int → Int → Prop} {g : Int → Int → Int} (rule : OpR X f (rI C fun i j => .int (g i j)))
    (ho : ∀ (i j : Int) (st : Store), (C i j ∧ op2 m op (.int i) (.int j) st = .ok (.int (g i j)) st) ∨ op2 m op (.int i) (.int j) st = .bad)
    (hb : ∀ (d e : D) (st : Store), op2 m op d e st = .bad ∨ ∃ i j, d = .int i ∧ e = .int j) : OpR X f (rOp X (op2 m op)) := by
  intro pins s σ H x y v u Q I rx ry h
  obtain ⟨mu, st, d, e, W, hd, he, R, h⟩ := h
  rcases hb d e st with z | ⟨i, j, rfl, rfl⟩
  · rw [z] at h; exact h.elim
  · cases hd
    cases he
    rcases ho i j st with ⟨c, z⟩ | z
    · rw [z] at h
      exact rule pins s σ H _ _ v u Q I rx ry ⟨i, j, rfl, rfl, c, run_ok h R _ (.int _)⟩
    · rw [z] at h; exact h.elim
theorem op_free {f : Value → Value → Sem Value} {g : Int → Int → Int} (rule : OpR X f (rI0 fun i j => .int (g i j))) : OpR X f (rI (fun _ _ => True) fun i j => .int (g i j)) := by
  intro pins s σ H x y v u Q I rx ry h
  obtain ⟨i, j, rfl, rfl, _, q⟩ := h
  exact rule pins s σ H _ _ v u Q I rx ry ⟨i, j, rfl, rfl, q⟩
theorem hb_any {op : Op2} (h : op ≠ .add) (h2 : op ≠ .mul) : ∀ (d e : D) (st : Store), op2 m op d e st = .bad ∨ ∃ i j, d = .int i ∧ e = .int j := by
  intro d e st
  cases d <;> cases e <;> cases op <;> first | exact absurd rfl h | exact absurd rfl h2 | exact .inl rfl | exact .inr ⟨_, _, rfl, rfl⟩
theorem opD_sub : OpR X (binaryOp .Sub) (rOp X (op2 m .sub)) := opD_int (op_free op_sub) (fun i j st => .inl ⟨trivial, rfl⟩) (hb_any (by decide) (by decide))
theorem opD_and : OpR X (binaryOp .BitAnd) (rOp X (op2 m .and)) := opD_int (op_free op_and) (fun i j st => .inl ⟨trivial, rfl⟩) (hb_any (by decide) (by decide))
theorem opD_or : OpR X (binaryOp .BitOr) (rOp X (op2 m .or)) := opD_int (op_free op_or) (fun i j st => .inl ⟨trivial, rfl⟩) (hb_any (by decide) (by decide))
theorem opD_xor : OpR X (binaryOp .BitXor) (rOp X (op2 m .xor)) := opD_int (op_free op_xor) (fun i j st => .inl ⟨trivial, rfl⟩) (hb_any (by decide) (by decide))
theorem if_cases {α : Type} {c : Prop} [Decidable c] {a b : M α} {st : Store} : (c ∧ (if c then a else b) st = a st) ∨ (¬ c ∧ (if c then a else b) st = b st) := by
  by_cases h : c
  · exact .inl ⟨h, by rw [if_pos h]⟩
  · exact .inr ⟨h, by rw [if_neg h]⟩
theorem opD_fdiv : OpR X (binaryOp .FloorDiv) (rOp X (op2 m .fdiv)) := opD_int op_fdiv (fun i j st => (if_cases (c := 0 < j ∧ j < 1073741824)).imp (fun z => ⟨z.1, z.2⟩) fun z => z.2) (hb_any (by decide) (by decide))
theorem opD_mod : OpR X (binaryOp .Mod) (rOp X (op2 m .mod)) := opD_int op_mod (fun i j st => (if_cases (c := 0 < j)).imp (fun z => ⟨z.1, z.2⟩) fun z => z.2) (hb_any (by decide) (by decide))
theorem opD_pow : OpR X (binaryOp .Pow) (rOp X (op2 m .pow)) := opD_int op_pow (fun i j st => (if_cases (c := 0 ≤ j ∧ j ≤ 1000000 ∧ i.natAbs < 2 ^ 64)).imp (fun z => ⟨z.1, z.2⟩) fun z => z.2) (hb_any (by decide) (by decide))
theorem opD_shl : OpR X (binaryOp .LShift) (rOp X (op2 m .shl)) := opD_int op_shl (fun i j st => (if_cases (c := 0 ≤ j ∧ j ≤ 1000000 ∧ i.natAbs < 2 ^ 64)).imp (fun z => ⟨z.1, z.2⟩) fun z => z.2) (hb_any (by decide) (by decide))
theorem opD_shr : OpR X (binaryOp .RShift) (rOp X (op2 m .shr)) := opD_int op_shr (fun i j st => (if_cases (c := 0 ≤ j)).imp (fun z => ⟨z.1, z.2⟩) fun z => z.2) (hb_any (by decide) (by decide))
theorem repL_one (l : List V) : (List.replicate (1 : Int).toNat l).flatten = l := by simp
theorem opD_mul : OpR X (binaryOp .Mult) (rOp X (op2 m .mul)) := by
  intro pins s σ H x y v u Q I rx ry h
  obtain ⟨mu, st, d, e, W, hd, he, R, h⟩ := h
  have lists : ∀ {d : D} {k : Int}, Den X.w X.K mu H x d → RelV (.int k) u → run X.w X.K ((do let a ← asL d; if -(2 ^ 63) ≤ k ∧ k < 2 ^ 63 ∧ a.length * k.toNat ≤ sizeLine then newL m (repL a k) else mbad : M D) st) mu H W (QV X.w X.K Q) → wpAny (model X.prog X.w) X.A (binaryOp .Mult v u) (EP X pins σ Q) X.xe s := fun {d k} hd ry h => by
    obtain ⟨a, xs, l, rfl, h1, r1, h⟩ := run_asL hd R (run_bind h)
    rcases if_cases (c := -(2 ^ 63) ≤ k ∧ k < 2 ^ 63 ∧ l.length * k.toNat ≤ sizeLine) (a := newL m (repL l k)) (b := (mbad : M D)) (st := st) with ⟨c, z⟩ | ⟨c, z⟩
    · rw [z] at h
      obtain ⟨hz, q⟩ := run_newL h R (r1.flat k.toNat)
      exact op_rep pins s σ H _ _ v u Q I rx ry ⟨a, k, xs, rfl, rfl, h1, c.1, c.2.1, by rw [r1.length]; exact c.2.2, q⟩
    · rw [z] at h; exact h.elim
  cases he with
  | int k => cases hd with
    | int i =>
      rcases if_cases (c := small64 i = true ∨ small64 k = true) (a := (M.pure (.int (i * k)) : M D)) (b := (mbad : M D)) (st := st) with ⟨c, z⟩ | ⟨c, z⟩
      · have h' : run X.w X.K ((if small64 i = true ∨ small64 k = true then M.pure (.int (i * k)) else mbad : M D) st) mu H W (QV X.w X.K Q) := h
        rw [z] at h'
        exact op_mul pins s σ H _ _ v u Q I rx ry ⟨i, k, rfl, rfl, c.imp (fun z => of_decide_eq_true z) fun z => of_decide_eq_true z, run_pure h' R _ (.int _)⟩
      · have h' : run X.w X.K ((if small64 i = true ∨ small64 k = true then M.pure (.int (i * k)) else mbad : M D) st) mu H W (QV X.w X.K Q) := h
        rw [z] at h'; exact h'.elim
    | @tup a xs l h1 r1 =>
      have h' : run X.w X.K ((if l ≠ [] ∧ 1 ≤ k ∧ k ≤ 1000 ∧ l.length ≤ 1000 then .ok (.tup (repL l k)) st else .bad : Res D)) mu H W (QV X.w X.K Q) := h
      split at h'
      · rename_i hz
        by_cases e1 : k = 1
        · subst e1
          refine op_repT1 pins s σ H _ _ v u Q I rx ry ⟨a, xs, rfl, rfl, h1.sq, ?_⟩
          have e2 : repL l 1 = l := by unfold repL; simp
          rw [e2] at h'
          exact run_ok h' R _ (.tup h1 r1)
        · exact op_repT pins s σ H _ _ v u Q I rx ry ⟨a, k, xs, rfl, rfl, h1.sq, fun e => hz.1 (by subst e; cases r1; rfl), by omega, hz.2.2.1, by rw [r1.length]; exact hz.2.2.2, new_tup (st' := st) h' R (r1.flat k.toNat)⟩
      · exact h'.elim
    | lst h1 n r => exact lists (.lst h1 n r) ry h
    | ref h1 => exact lists (.ref h1) ry h
    | non => exact (run_bind h : run X.w X.K (asL D.non st) mu H W _).elim
    | bl b => exact (run_bind h : run X.w X.K (asL (D.bl b) st) mu H W _).elim
    | str b => exact (run_bind h : run X.w X.K (asL (D.str b) st) mu H W _).elim
    | dct h1 n ok nd r q => exact (run_bind h : run X.w X.K (asL (D.dct _ _) st) mu H W _).elim
    | scr h1 => exact (run_bind h : run X.w X.K (asL (D.scr _) st) mu H W _).elim
  | _ => cases hd <;> exact h.elim
/-- all operators -/
def pyOp : Op2 → Operator
  | .add => .Add
  | .sub => .Sub
  | .mul => .Mult
  | .fdiv => .FloorDiv
  | .mod => .Mod
  | .pow => .Pow
  | .shl => .LShift
  | .shr => .RShift
  | .and => .BitAnd
  | .or => .BitOr
  | .xor => .BitXor
theorem pyOp_of {op : Operator} {o : Op2} (h : opOf op = some o) : op = pyOp o := by
  cases op <;> cases h <;> rfl
theorem opD (op : Op2) : OpR X (binaryOp (pyOp op)) (rOp X (op2 m op)) := by
  cases op
  · exact opD_add
  · exact opD_sub
  · exact opD_mul
  · exact opD_fdiv
  · exact opD_mod
  · exact opD_pow
  · exact opD_shl
  · exact opD_shr
  · exact opD_and
  · exact opD_or
  · exact opD_xor
end
end PI
set_option Elab.async false
set_option linter.all false
set_option maxRecDepth 100000
set_option maxHeartbeats 4000000
/-! PI, part E: comparisons, truth, items, slices. -/
namespace PI
open PySem PySem.Spec PyProof.Rows L2
section
variable {X : Cx} {W : WS} {σ : L2.St} {H : Hp} {Q : VK}
/-- two expressions, then an operation by values -/
theorem tE_two {xa xb : Env → M D} {g : D → D → M D} (h : tE X.w X.K (fun ρ => do let x ← xa ρ; let y ← xb ρ; g x y) W σ H Q) :
    tOp (rOp X g) (tE X.w X.K xa W) (tE X.w X.K xb W) σ H Q := by
  obtain ⟨ρ, st, mu, E, R, h⟩ := h
  exact ⟨ρ, st, mu, E, R, run_mono (run_bind h) fun a st1 mu1 H1 x R1 q v hv => ⟨ρ, st1, mu1, E.ext x, R1, run_mono (run_bind q) fun b st2 mu2 H2 x2 R2 q2 u hu => ⟨mu2, st2, a, b, W σ, hv.ext x2, hu, R2, q2⟩⟩⟩
theorem tE_twoB {xa xb : Env → M D} {g : D → D → M Bool} (h : tE X.w X.K (fun ρ => do let x ← xa ρ; let y ← xb ρ; let c ← g x y; M.pure (.bl c)) W σ H Q) :
    tOp (rOpB X g) (tE X.w X.K xa W) (tE X.w X.K xb W) σ H Q := by
  obtain ⟨ρ, st, mu, E, R, h⟩ := h
  exact ⟨ρ, st, mu, E, R, run_mono (run_bind h) fun a st1 mu1 H1 x R1 q v hv => ⟨ρ, st1, mu1, E.ext x, R1, run_mono (run_bind q) fun b st2 mu2 H2 x2 R2 q2 u hu => ⟨mu2, st2, a, b, W σ, hv.ext x2, hu, R2, run_mono (run_bind q2) fun c st3 mu3 H3 x3 R3 q3 => run_pure q3 R3 _ (.bl c)⟩⟩⟩
/-- one expression, then an operation by value -/
theorem tE_one {xa : Env → M D} {g : D → M D} (h : tE X.w X.K (fun ρ => do let x ← xa ρ; g x) W σ H Q) :
    tE X.w X.K xa W σ H fun v H1 => ∃ mu st d, Den X.w X.K mu H1 v d ∧ RSt X.w X.K mu H1 st ∧ run X.w X.K (g d st) mu H1 (W σ) (QV X.w X.K Q) := by
  obtain ⟨ρ, st, mu, E, R, h⟩ := h
  exact ⟨ρ, st, mu, E, R, run_mono (run_bind h) fun a st1 mu1 H1 x R1 q v hv => ⟨mu1, st1, a, hv, R1, q⟩⟩
/-! ### one-place operators -/
def rU1 (X : Cx) (g : D → M D) : V → Hp → VK → Prop := fun x H Q => ∃ mu st d W, Den X.w X.K mu H x d ∧ RSt X.w X.K mu H st ∧ run X.w X.K (g d st) mu H W (QV X.w X.K Q)
theorem tE_un {xa : Env → M D} {g : D → M D} (h : tE X.w X.K (fun ρ => do let x ← xa ρ; g x) W σ H Q) : tUn (rU1 X g) (tE X.w X.K xa W) σ H Q := by
  obtain ⟨ρ, st, mu, E, R, h⟩ := h
  exact ⟨ρ, st, mu, E, R, run_mono (run_bind h) fun a st1 mu1 H1 x R1 q v hv => ⟨mu1, st1, a, W σ, hv, R1, q⟩⟩
theorem unD_neg : UnR X (unaryOp .USub) (rU1 X (op1 .neg)) := by
  intro pins s σ H x v Q I rx h
  obtain ⟨mu, st, d, W, hd, R, h⟩ := h
  cases hd with
  | int i => exact un_neg pins s σ H _ v Q I rx ⟨i, rfl, run_pure h R _ (.int _)⟩
  | _ => exact h.elim
theorem unD_inv : UnR X (unaryOp .Invert) (rU1 X (op1 .inv)) := by
  intro pins s σ H x v Q I rx h
  obtain ⟨mu, st, d, W, hd, R, h⟩ := h
  cases hd with
  | int i => exact un_inv pins s σ H _ v Q I rx ⟨i, rfl, run_pure h R _ (.int _)⟩
  | _ => exact h.elim
/-! ### == of data -/
theorem fit_py {w : World} {K : PySem.W.Frag} {mu : Mu} {H : Hp} : ∀ {v : V} {d : D} {n : Nat}, Den w K mu H v d → d.fitN n = true → Dp K H v (py d) := by
  have go : ∀ (n : Nat), (∀ {v : V} {d : D}, Den w K mu H v d → d.fitN n = true → Dp K H v (py d)) ∧ ∀ {xs : List V} {l : List D}, Dens w K mu H xs l → D.fitL l n = true → DpAll K H xs (pys l) := by
    intro n
    induction n with
    | zero =>
      have a : ∀ {v : V} {d : D}, Den w K mu H v d → d.fitN 0 = true → Dp K H v (py d) := by
        intro v d h f
        cases h with
        | non => exact .non
        | bl b => exact .bl b
        | int i => exact .int i
        | str s => exact .str s
        | _ => exact nomatch f
      refine ⟨a, fun {xs l} => ?_⟩
      induction l generalizing xs with
      | nil => intro h f; cases h; exact .nil
      | cons d r ih =>
        intro h f
        cases h with
        | cons h1 h2 =>
          obtain ⟨f1, f2⟩ := Bool.and_eq_true_iff.mp (show (d.fitN 0 && D.fitL r 0) = true from f)
          exact .cons (a h1 f1) (ih h2 f2)
    | succ n ih =>
      obtain ⟨_, ihL⟩ := ih
      have a : ∀ {v : V} {d : D}, Den w K mu H v d → d.fitN (n + 1) = true → Dp K H v (py d) := by
        intro v d h f
        cases h with
        | non => exact .non
        | bl b => exact .bl b
        | int i => exact .int i
        | str s => exact .str s
        | tup h1 r => exact .tup h1.sq (ihL r f)
        | lst h1 _ r => exact .lst (SqL.of h1) (ihL r f)
        | dct _ _ _ _ _ _ => exact nomatch f
        | ref _ => exact nomatch f
        | scr _ => exact nomatch f
      refine ⟨a, fun {xs l} => ?_⟩
      induction l generalizing xs with
      | nil => intro h f; cases h; exact .nil
      | cons d r ih =>
        intro h f
        cases h with
        | cons h1 h2 =>
          obtain ⟨f1, f2⟩ := Bool.and_eq_true_iff.mp (show (d.fitN (n + 1) && D.fitL r (n + 1)) = true from f)
          exact .cons (a h1 f1) (ih h2 f2)
  intro v d n h f
  exact (go n).1 h f
theorem fit_pys {w : World} {K : PySem.W.Frag} {mu : Mu} {H : Hp} {xs : List V} {l : List D} {n : Nat} (h : Dens w K mu H xs l) (f : D.fitL l n = true) : DpAll K H xs (pys l) := by
  induction l generalizing xs with
  | nil => cases h; exact .nil
  | cons d r ih =>
    cases h with
    | cons h1 h2 =>
      obtain ⟨f1, f2⟩ := Bool.and_eq_true_iff.mp (show (d.fitN n && D.fitL r n) = true from f)
      exact .cons (fit_py h1 f1) (ih h2 f2)
theorem shaped_py {d : D} (h : d.plain = true) : SeqAt.shaped (py d) = true := by
  obtain ⟨a, b⟩ := py_can d 50 h
  exact Bool.and_eq_true_iff.mpr ⟨a, decide_eq_true (by omega)⟩
theorem shaped_pys {l : List D} (h : D.plainL l = true) : SeqAt.shaped (.list (pys l)) = true := by
  obtain ⟨a, b⟩ := py_canL l 49 h
  exact Bool.and_eq_true_iff.mpr ⟨a, decide_eq_true (by simp only [PyData.depth]; omega)⟩
/-- a place's list as a frozen one -/
theorem run_deref {w : World} {K : PySem.W.Frag} {mu : Mu} {H : Hp} {st : Store} {W : WD} {d : D} {v : V} {Q : D → Store → Mu → Hp → Prop} (hd : Den w K mu H v d) (R : RSt w K mu H st) (h : run w K (deref d st) mu H W Q) :
    ∃ e, Q e st mu H ∧ ∀ n, e.fitN n = true → Dp K H v (py e) := by
  cases hd with
  | @ref a n e =>
    unfold deref at h
    dsimp only at h
    cases q : st[n]? with
    | none => rw [q] at h; exact h.elim
    | some o =>
      rw [q] at h
      cases o with
      | lst l =>
        obtain ⟨xs, h1, h2⟩ := R.at e q
        refine ⟨_, run_ok h R, fun m f => ?_⟩
        cases m with
        | zero => exact (nomatch f)
        | succ m => exact .lst (SqL.of h1) (fit_pys h2 f)
      | dct k vs => exact ⟨_, run_ok h R, fun m f => (nomatch f)⟩
  | non => exact ⟨_, run_ok h R, fun n f => fit_py (w := w) (mu := mu) .non f⟩
  | bl b => exact ⟨_, run_ok h R, fun n f => fit_py (w := w) (mu := mu) (.bl b) f⟩
  | int b => exact ⟨_, run_ok h R, fun n f => fit_py (w := w) (mu := mu) (.int b) f⟩
  | str b => exact ⟨_, run_ok h R, fun n f => fit_py (w := w) (mu := mu) (.str b) f⟩
  | tup h1 r => exact ⟨_, run_ok h R, fun n f => fit_py (.tup h1 r) f⟩
  | lst h1 n r => exact ⟨_, run_ok h R, fun m f => fit_py (.lst h1 n r) f⟩
  | dct h1 n ok nd r q => exact ⟨_, run_ok h R, fun m f => (nomatch f)⟩
  | scr h1 => exact ⟨_, run_ok h R, fun m f => (nomatch f)⟩
theorem opD_eq (hu : X.A.units + 65 < cLine) : OpR X (compareOp .Eq) (rOpB X (cmpD .eq)) := by
  intro pins s σ H x y v u Q I rx ry h
  obtain ⟨mu, st, d, e, W, hd, he, R, h⟩ := h
  obtain ⟨d', h, p1⟩ := run_deref hd R (run_bind h)
  obtain ⟨e', h, p2⟩ := run_deref he R (run_bind h)
  rcases if_cases (c := d'.plain = true ∧ e'.plain = true) (a := (M.pure (D.eqv d' e') : M Bool)) (b := mbad) (st := st) with ⟨c, z⟩ | ⟨c, z⟩
  · rw [z] at h
    refine op_eqD (by omega) pins s σ H _ _ v u Q I rx ry ⟨_, _, p1 _ c.1, p2 _ c.2, shaped_py c.1, shaped_py c.2, ?_⟩
    rw [py_eqv d' e' 50 50 c.1 c.2]
    exact run_pure h R
  · rw [z] at h; exact h.elim
theorem opD_ne (hu : X.A.units + 65 < cLine) : OpR X (compareOp .NotEq) (rOpB X (cmpD .ne)) := by
  intro pins s σ H x y v u Q I rx ry h
  obtain ⟨mu, st, d, e, W, hd, he, R, h⟩ := h
  obtain ⟨d', h, p1⟩ := run_deref hd R (run_bind h)
  obtain ⟨e', h, p2⟩ := run_deref he R (run_bind h)
  rcases if_cases (c := d'.plain = true ∧ e'.plain = true) (a := (M.pure (!D.eqv d' e') : M Bool)) (b := mbad) (st := st) with ⟨c, z⟩ | ⟨c, z⟩
  · rw [z] at h
    refine op_neD (by omega) pins s σ H _ _ v u Q I rx ry ⟨_, _, p1 _ c.1, p2 _ c.2, shaped_py c.1, shaped_py c.2, ?_⟩
    rw [py_eqv d' e' 50 50 c.1 c.2]
    exact run_pure h R
  · rw [z] at h; exact h.elim
theorem opD_le : OpR X (compareOp .LtE) (rOpB X (cmpD .le)) := by
  intro pins s σ H x y v u Q I rx ry h
  obtain ⟨mu, st, d, e, W, hd, he, R, h⟩ := h
  cases hd with
  | int i => cases he with
    | int j => exact op_le pins s σ H _ _ v u Q I rx ry ⟨i, j, rfl, rfl, run_pure h R⟩
    | _ => exact h.elim
  | _ => cases he <;> exact h.elim
theorem opD_gt : OpR X (compareOp .Gt) (rOpB X (cmpD .gt)) := by
  intro pins s σ H x y v u Q I rx ry h
  obtain ⟨mu, st, d, e, W, hd, he, R, h⟩ := h
  cases hd with
  | int i => cases he with
    | int j => exact op_gt pins s σ H _ _ v u Q I rx ry ⟨i, j, rfl, rfl, run_pure h R⟩
    | _ => exact h.elim
  | _ => cases he <;> exact h.elim
theorem opD_ge : OpR X (compareOp .GtE) (rOpB X (cmpD .ge)) := by
  intro pins s σ H x y v u Q I rx ry h
  obtain ⟨mu, st, d, e, W, hd, he, R, h⟩ := h
  cases hd with
  | int i => cases he with
    | int j => exact op_ge pins s σ H _ _ v u Q I rx ry ⟨i, j, rfl, rfl, run_pure h R⟩
    | _ => exact h.elim
  | _ => cases he <;> exact h.elim
end
end PI
set_option Elab.async false
set_option linter.all false
set_option maxRecDepth 100000
set_option maxHeartbeats 4000000
/-! PI, part F: dicts, their keys numbers and texts, or tuples. -/
namespace PI
open PySem PySem.Spec PyProof.Rows L2
/-! ### keys -/
mutual
theorem nk_eqv : ∀ (a b : D) (n m : Nat), a.keyN n = true → b.keyN m = true → D.eqv a b = NestedKey.beq (nk a) (nk b)
  | .non, b, _, _, _, hb => by cases b <;> first | rfl | exact (nomatch hb)
  | .bl x, b, _, _, _, hb => by
    cases b with
    | bl y => show (x == y) = decide (PI.b2i x = PI.b2i y); cases x <;> cases y <;> rfl
    | int j => show (PI.b2i x == j) = decide (PI.b2i x = j); by_cases h : PI.b2i x = j <;> simp [h]
    | lst _ => exact (nomatch hb)
    | dct _ _ => exact (nomatch hb)
    | ref _ => exact (nomatch hb)
    | scr _ => exact (nomatch hb)
    | _ => rfl
  | .int x, b, _, _, _, hb => by
    cases b with
    | bl y => show (x == PI.b2i y) = decide (x = PI.b2i y); by_cases h : x = PI.b2i y <;> simp [h]
    | int j => show (x == j) = decide (x = j); by_cases h : x = j <;> simp [h]
    | lst _ => exact (nomatch hb)
    | dct _ _ => exact (nomatch hb)
    | ref _ => exact (nomatch hb)
    | scr _ => exact (nomatch hb)
    | _ => rfl
  | .str x, b, _, _, _, hb => by
    cases b with
    | str y => rfl
    | lst _ => exact (nomatch hb)
    | dct _ _ => exact (nomatch hb)
    | ref _ => exact (nomatch hb)
    | scr _ => exact (nomatch hb)
    | _ => rfl
  | .tup l, b, n, m, ha, hb => by
    cases b with
    | tup r =>
      cases n with
      | zero => exact (nomatch ha)
      | succ n => cases m with
        | zero => exact (nomatch hb)
        | succ m => exact nk_eqvL l r n m ha hb
    | lst _ => exact (nomatch hb)
    | dct _ _ => exact (nomatch hb)
    | ref _ => exact (nomatch hb)
    | scr _ => exact (nomatch hb)
    | _ => rfl
  | .lst _, _, _, _, ha, _ => nomatch ha
  | .dct _ _, _, _, _, ha, _ => nomatch ha
  | .ref _, _, _, _, ha, _ => nomatch ha
  | .scr _, _, _, _, ha, _ => nomatch ha
theorem nk_eqvL : ∀ (a b : List D) (n m : Nat), D.keyL a n = true → D.keyL b m = true → D.eqvL a b = NestedKey.beqAll (nks a) (nks b)
  | [], [], _, _, _, _ => rfl
  | [], _ :: _, _, _, _, _ => rfl
  | _ :: _, [], _, _, _, _ => rfl
  | x :: r, y :: s, n, m, ha, hb => by
    obtain ⟨h1, h2⟩ := Bool.and_eq_true_iff.mp (show (x.keyN n && D.keyL r n) = true from ha)
    obtain ⟨h3, h4⟩ := Bool.and_eq_true_iff.mp (show (y.keyN m && D.keyL s m) = true from hb)
    show (D.eqv x y && D.eqvL r s) = (NestedKey.beq (nk x) (nk y) && NestedKey.beqAll (nks r) (nks s))
    rw [nk_eqv x y n m h1 h3, nk_eqvL r s n m h2 h4]
end
mutual
theorem nk_depth : ∀ (a : D) (n : Nat), a.keyN n = true → (nk a).depth ≤ n
  | .non, _, _ => Nat.zero_le _
  | .bl _, _, _ => Nat.zero_le _
  | .int _, _, _ => Nat.zero_le _
  | .str _, _, _ => Nat.zero_le _
  | .tup l, n, h => by
    cases n with
    | zero => exact (nomatch h)
    | succ n => exact Nat.succ_le_succ (nk_depthL l n h)
  | .lst _, _, h => nomatch h
  | .dct _ _, _, h => nomatch h
  | .ref _, _, h => nomatch h
  | .scr _, _, h => nomatch h
theorem nk_depthL : ∀ (a : List D) (n : Nat), D.keyL a n = true → NestedKey.depthAll (nks a) ≤ n
  | [], _, _ => Nat.zero_le _
  | x :: r, n, h => by
    obtain ⟨h1, h2⟩ := Bool.and_eq_true_iff.mp (show (x.keyN n && D.keyL r n) = true from h)
    exact Nat.max_le.mpr ⟨nk_depth x n h1, nk_depthL r n h2⟩
end
theorem isTK_key {d : D} (h : d.isTK = true) : ∃ l, d = .tup l ∧ d.keyN 8 = true := by
  cases d with
  | tup l => exact ⟨l, rfl, h⟩
  | _ => exact (nomatch h)
theorem isTK_eqv {a b : D} (ha : a.isTK = true) (hb : b.isTK = true) : D.eqv a b = decide (nk a = nk b) := by
  obtain ⟨_, _, h1⟩ := isTK_key ha
  obtain ⟨_, _, h2⟩ := isTK_key hb
  rw [nk_eqv a b 8 8 h1 h2, NestedKey.decide_eq]
/-- a number or a text as the layer's key -/
def lk : D → Key
  | .int i => .inl i
  | .str s => .inr s
  | _ => .inl 0
theorem isLeaf_eqv {a b : D} (ha : a.isLeaf = true) (hb : b.isLeaf = true) : D.eqv a b = decide (lk a = lk b) := by
  cases a with
  | int i => cases b with
    | int j => show (i == j) = decide ((Sum.inl i : Key) = Sum.inl j); rw [key_ll]
    | str t => show false = decide ((Sum.inl i : Key) = Sum.inr t); rw [key_lr]
    | _ => exact (nomatch hb)
  | str s => cases b with
    | int j => show false = decide ((Sum.inr s : Key) = Sum.inl j); rw [key_rl]
    | str t => show decide (s = t) = decide ((Sum.inr s : Key) = Sum.inr t); rw [key_rr]
    | _ => exact (nomatch hb)
  | _ => exact (nomatch ha)
theorem isLeaf_hash {w : World} {a : D} (ha : a.isLeaf = true) : (nk a).hash w = keyH w (lk a) := by
  cases a with
  | int i => rfl
  | str s => rfl
  | _ => exact (nomatch ha)
section
variable {X : Cx} {pins : List (Addr × Obj)} {σ : L2.St} {H : Hp} {s : Shared} {mu : Mu}
mutual
/-- a key in the heap -/
theorem den_nested (I : Inv X pins σ H s) : ∀ (d : D) (n : Nat) (v : V) (u : Value), Den X.w X.K mu H v d → RelV v u → d.keyN n = true → NestedIs s.heap (nk d) u
  | .non, _, _, _, h, r, _ => by cases h; cases r; exact .none
  | .bl b, _, _, _, h, r, _ => by cases h; cases r; exact .bool (by cases b <;> rfl)
  | .int i, _, _, _, h, r, _ => by cases h; obtain ⟨t, rfl⟩ := r; exact .int i t
  | .str x, _, _, _, h, r, _ => by cases h; obtain ⟨t, rfl⟩ := r; exact .text x t
  | .tup l, n, _, _, h, r, f => by
    cases h with
    | tup h1 h2 =>
      cases r
      cases n with
      | zero => exact (nomatch f)
      | succ n =>
        obtain ⟨its, rv, ⟨o, ho, hc, m, hd⟩, _⟩ := I.tuple h1.sq
        exact .tup ho hc hd (by simpa using dens_nested I l n _ its h2 rv f)
  | .lst _, _, _, _, _, _, f => nomatch f
  | .dct _ _, _, _, _, _, _, f => nomatch f
  | .ref _, _, _, _, _, _, f => nomatch f
  | .scr _, _, _, _, _, _, f => nomatch f
theorem dens_nested (I : Inv X pins σ H s) : ∀ (l : List D) (n : Nat) (xs : List V) (us : List Value), Dens X.w X.K mu H xs l → Vals xs us → D.keyL l n = true → NestedAll s.heap (nks l) us
  | [], _, _, _, h, r, _ => by cases h; cases r; exact .nil
  | d :: l, n, _, _, h, r, f => by
    obtain ⟨f1, f2⟩ := Bool.and_eq_true_iff.mp (show (d.keyN n && D.keyL l n) = true from f)
    cases h with
    | cons h1 h2 => cases r with
      | cons r1 r2 => exact .cons (den_nested I d n _ _ h1 r1 f1) (dens_nested I l n _ _ h2 r2 f2)
end
/-! ### the dict's lists -/
theorem keyAt_cons (k x : D) (ks : List D) : keyAt k (x :: ks) = if D.eqv x k = true then some 0 else (keyAt k ks).map (· + 1) := by
  unfold keyAt
  rw [List.findIdx?_cons]
theorem keyAt_none {k : D} {ks : List D} (h : keyAt k ks = none) : ∀ x ∈ ks, D.eqv x k = false := fun x hx => by
  unfold keyAt at h
  have := List.findIdx?_eq_none_iff.mp h x hx
  simpa using this
theorem keyAt_some {k : D} {ks : List D} {j : Nat} (h : keyAt k ks = some j) : ∃ x, ks[j]? = some x ∧ D.eqv x k = true ∧ j < ks.length := by
  unfold keyAt at h
  obtain ⟨h1, h2, _⟩ := List.findIdx?_eq_some_iff_getElem.mp h
  exact ⟨ks[j], List.getElem?_eq_getElem h1, h2, h1⟩
/-- the values behind a store -/
def putV {α : Type} (k : D) (ks : List D) (us : List α) (r : α) : List α := match keyAt k ks with
  | some j => us.set j r
  | none => us ++ [r]
def putKs (k : D) (ks : List D) : List D := match keyAt k ks with
  | some _ => ks
  | none => ks ++ [k]
theorem putK_eq (ks vs : List D) (k v : D) : putK ks vs k v = (putKs k ks, putV k ks vs v) := by
  unfold putK putKs putV
  cases keyAt k ks <;> rfl
theorem putV_length {α : Type} (k : D) (ks : List D) (us : List α) (r : α) (h : us.length = ks.length) : (putV k ks us r).length = (putKs k ks).length := by
  unfold putV putKs
  cases keyAt k ks <;> simp [h]
section
variable {κ : Type} [DecidableEq κ] (f : D → κ)
/-- entries by lists -/
def m2 {β : Type} : List D → List β → List (κ × β)
  | k :: ks, u :: us => (f k, u) :: m2 ks us
  | _, _ => []
theorem m2_fst {β : Type} : ∀ {ks : List D} {us : List β}, us.length = ks.length → (m2 f ks us).map (·.1) = ks.map f
  | [], [], _ => rfl
  | k :: ks, u :: us, h => by
    show f k :: (m2 f ks us).map (·.1) = f k :: ks.map f
    rw [m2_fst (ks := ks) (us := us) (by simpa using h)]
theorem m2_append {β : Type} {k : D} {r : β} : ∀ {ks : List D} {us : List β}, us.length = ks.length → m2 f (ks ++ [k]) (us ++ [r]) = m2 f ks us ++ [(f k, r)]
  | [], [], _ => rfl
  | x :: ks, u :: us, h => by
    show (f x, u) :: m2 f (ks ++ [k]) (us ++ [r]) = (f x, u) :: (m2 f ks us ++ [(f k, r)])
    rw [m2_append (ks := ks) (us := us) (by simpa using h)]
theorem m2_nodup {β : Type} : ∀ {ks : List D} {us : List β}, us.length = ks.length → (∀ x ∈ ks, ∀ y ∈ ks, D.eqv x y = decide (f x = f y)) → kNodup ks → ((m2 f ks us).map (·.1)).Nodup := fun {ks us} h he hn => by
  rw [m2_fst f h]
  clear h
  induction ks with
  | nil => exact List.nodup_nil
  | cons k ks ih =>
    rw [List.map_cons, List.nodup_cons]
    refine ⟨fun z => ?_, ih (fun x hx y hy => he x (List.mem_cons_of_mem _ hx) y (List.mem_cons_of_mem _ hy)) hn.2⟩
    obtain ⟨x, hx, e⟩ := List.mem_map.mp z
    have q := hn.1 x hx
    rw [he k List.mem_cons_self x (List.mem_cons_of_mem _ hx), e] at q
    simp at q
theorem m2_find {β : Type} {k : D} : ∀ {ks : List D} {us : List β}, us.length = ks.length → (∀ x ∈ ks, D.eqv x k = decide (f x = f k)) → ((m2 f ks us).find? fun kv => decide (kv.1 = f k)).map (·.2) = (keyAt k ks).bind fun j => us[j]?
  | [], [], _, _ => rfl
  | x :: ks, u :: us, h, he => by
    rw [keyAt_cons, he x List.mem_cons_self]
    have ih := m2_find (k := k) (ks := ks) (us := us) (by simpa using h) fun y hy => he y (List.mem_cons_of_mem _ hy)
    show (List.find? (fun kv => decide (kv.1 = f k)) ((f x, u) :: m2 f ks us)).map (·.2) = _
    rw [List.find?_cons]
    by_cases q : f x = f k
    · simp [q]
    · simp only [q, decide_false, Bool.false_eq_true, if_false]
      rw [ih]
      cases keyAt k ks <;> rfl
theorem m2_value {k : D} {ks : List D} {us : List Value} (h : us.length = ks.length) (he : ∀ x ∈ ks, D.eqv x k = decide (f x = f k)) : valueAt (m2 f ks us) (f k) = (keyAt k ks).bind fun j => us[j]? := m2_find f h he
theorem m2_set {β : Type} {k : D} {r : β} (g : κ × β → κ × β) (hg : ∀ x u, g (f x, u) = if f x = f k then (f x, r) else (f x, u)) : ∀ {ks : List D} {us : List β} {j : Nat}, us.length = ks.length → (∀ x ∈ ks, D.eqv x k = decide (f x = f k)) → (∀ x ∈ ks, ∀ y ∈ ks, D.eqv x y = decide (f x = f y)) → kNodup ks → keyAt k ks = some j → (m2 f ks us).map g = m2 f ks (us.set j r)
  | [], [], _, _, _, _, _, e => by cases e
  | x :: ks, u :: us, j, h, he, hee, hn, e => by
    rw [keyAt_cons, he x List.mem_cons_self] at e
    show g (f x, u) :: (m2 f ks us).map g = _
    rw [hg]
    by_cases q : f x = f k
    · simp only [q, decide_true, if_true] at e
      cases e
      rw [if_pos q]
      show (f x, r) :: (m2 f ks us).map g = (f x, r) :: m2 f ks us
      congr 1
      have hne : ∀ y ∈ ks, f y ≠ f k := fun y hy z => by
        have a := hn.1 y hy
        rw [hee x List.mem_cons_self y (List.mem_cons_of_mem _ hy), q, z] at a
        simp at a
      have hl : us.length = ks.length := by simpa using h
      clear h he hee hn
      induction ks generalizing us with
      | nil => cases us with
        | nil => rfl
        | cons _ _ => simp at hl
      | cons y ks ih => cases us with
        | nil => simp at hl
        | cons w us =>
          show g (f y, w) :: (m2 f ks us).map g = (f y, w) :: m2 f ks us
          rw [hg, if_neg (hne y List.mem_cons_self), ih (us := us) (fun z hz => hne z (List.mem_cons_of_mem _ hz)) (by simpa using hl)]
    · simp only [q, decide_false, Bool.false_eq_true, if_false] at e
      rw [if_neg q]
      cases e2 : keyAt k ks with
      | none => rw [e2] at e; cases e
      | some i =>
        rw [e2] at e
        cases e
        show (f x, u) :: (m2 f ks us).map g = (f x, u) :: m2 f ks (us.set i r)
        rw [m2_set g hg (ks := ks) (us := us) (by simpa using h) (fun y hy => he y (List.mem_cons_of_mem _ hy)) (fun y hy z hz => hee y (List.mem_cons_of_mem _ hy) z (List.mem_cons_of_mem _ hz)) hn.2 e2]
theorem m2_any {k : D} {ks : List D} {us : List Value} (h : us.length = ks.length) (he : ∀ x ∈ ks, D.eqv x k = decide (f x = f k)) : ((m2 f ks us).any fun kv => decide (kv.1 = f k)) = (keyAt k ks).isSome := by
  have e1 : ((m2 f ks us).any fun kv => decide (kv.1 = f k)) = ((m2 f ks us).map (·.1)).any fun x => decide (x = f k) := by rw [List.any_map]; rfl
  rw [e1, m2_fst f h, List.any_map]
  clear e1 h
  induction ks with
  | nil => rfl
  | cons x ks ih =>
    rw [List.any_cons, keyAt_cons, he x List.mem_cons_self, ih fun y hy => he y (List.mem_cons_of_mem _ hy)]
    by_cases q : f x = f k
    · simp [q]
    · simp [q]
theorem m2_stored {k : D} {ks : List D} {us : List Value} {r : Value} (h : us.length = ks.length) (he : ∀ x ∈ ks, D.eqv x k = decide (f x = f k)) (hee : ∀ x ∈ ks, ∀ y ∈ ks, D.eqv x y = decide (f x = f y)) (hn : kNodup ks) :
    stored (m2 f ks us) (f k) r = m2 f (putKs k ks) (putV k ks us r) := by
  unfold stored putKs putV
  rw [m2_any f h he]
  cases e : keyAt k ks with
  | none =>
    simp only [Option.isSome_none, Bool.false_eq_true, if_false]
    rw [m2_append f h]
  | some j =>
    simp only [Option.isSome_some, if_true]
    exact m2_set f _ (fun x u => by by_cases q : f x = f k <;> simp [q]) h he hee hn e
end
theorem kNodup_put {κ : Type} [DecidableEq κ] (f : D → κ) {k : D} {ks : List D} (he : ∀ x ∈ k :: ks, ∀ y ∈ k :: ks, D.eqv x y = decide (f x = f y)) (hn : kNodup ks) : kNodup (putKs k ks) := by
  unfold putKs
  cases e : keyAt k ks with
  | some j => exact hn
  | none =>
    have h := keyAt_none e
    show kNodup (ks ++ [k])
    clear e
    induction ks with
    | nil => exact ⟨fun x hx => (nomatch hx), trivial⟩
    | cons x ks ih =>
      refine ⟨fun y hy => ?_, ih (fun a ha b hb => he a ?_ b ?_) hn.2 fun y hy => h y (List.mem_cons_of_mem _ hy)⟩
      · rcases List.mem_append.mp hy with hy | hy
        · exact hn.1 y hy
        · rw [List.mem_singleton.mp hy]
          exact h x List.mem_cons_self
      · rcases List.mem_cons.mp ha with rfl | ha
        · exact List.mem_cons_self
        · exact List.mem_cons_of_mem _ (List.mem_cons_of_mem _ ha)
      · rcases List.mem_cons.mp hb with rfl | hb
        · exact List.mem_cons_self
        · exact List.mem_cons_of_mem _ (List.mem_cons_of_mem _ hb)
theorem putKs_all {p : D → Bool} {k : D} {ks : List D} (h : ks.all p = true) (hk : p k = true) : (putKs k ks).all p = true := by
  unfold putKs
  cases keyAt k ks with
  | some j => exact h
  | none => rw [List.all_append, h]; simp [hk]
theorem dens_putV {w : World} {K : PySem.W.Frag} {mu : Mu} {H : Hp} {vv : List V} {vs : List D} {x : V} {v : D} (k : D) (ks : List D) (h : Dens w K mu H vv vs) (hx : Den w K mu H x v) : Dens w K mu H (putV k ks vv x) (putV k ks vs v) := by
  unfold putV
  cases keyAt k ks with
  | some j => exact h.set j hx
  | none => exact h.snoc hx
theorem vals_putV {vv : List V} {us : List Value} {x : V} {u : Value} (k : D) (ks : List D) (h : Vals vv us) (hx : RelV x u) : Vals (putV k ks vv x) (putV k ks us u) := by
  unfold putV
  cases keyAt k ks with
  | some j => exact Vals.set hx j h
  | none => exact h.append (.cons hx .nil)
end
end PI
set_option Elab.async false
set_option linter.all false
set_option maxRecDepth 100000
set_option maxHeartbeats 4000000
/-! PI, part G: dicts in the heap. -/
namespace PI
open PySem PySem.Spec PyProof.Rows L2
theorem all_leaf {ks : List D} (h : ks.all D.isLeaf = true) : ∀ x ∈ ks, x.isLeaf = true := List.all_eq_true.mp h
theorem all_tk {ks : List D} (h : ks.all D.isTK = true) : ∀ x ∈ ks, x.isTK = true := List.all_eq_true.mp h
theorem leaf_is {w : World} {K : PySem.W.Frag} {mu : Mu} {H : Hp} {v : V} {k : D} {u : Value} (hk : k.isLeaf = true) (h : Den w K mu H v k) (r : RelV v u) : keyIs (lk k) u = true ∧ v = kV (lk k) := by
  cases h with
  | int i => obtain ⟨t, rfl⟩ := r; exact ⟨keyIs_int i t, rfl⟩
  | str s => obtain ⟨t, rfl⟩ := r; exact ⟨keyIs_str s t, rfl⟩
  | _ => exact (nomatch hk)
theorem kV_den {w : World} {K : PySem.W.Frag} {mu : Mu} {H : Hp} {k : D} (hk : k.isLeaf = true) : Den w K mu H (kV (lk k)) k := by
  cases k with
  | int i => exact .int i
  | str s => exact .str s
  | _ => exact (nomatch hk)
theorem kV_dens {w : World} {K : PySem.W.Frag} {mu : Mu} {H : Hp} : ∀ {ks : List D}, ks.all D.isLeaf = true → Dens w K mu H (ks.map fun k => kV (lk k)) ks
  | [], _ => .nil
  | k :: ks, h => by
    obtain ⟨h1, h2⟩ := Bool.and_eq_true_iff.mp (show (k.isLeaf && ks.all D.isLeaf) = true by simpa using h)
    exact .cons (kV_den h1) (kV_dens h2)
/-- a tracked dict's object -/
theorem dHO_ok {P : Program} {w : World} {H : Hp} {h : Heap} {a : Addr} {o : Obj} (e : h.get? a = some o) : ObjOk P w H h a (dHO a o) := ⟨e, ⟨o, e⟩, fun _ _ p k => k _ p⟩
section
variable {X : Cx} {pins : List (Addr × Obj)} {σ : L2.St} {H : Hp} {s : Shared} {mu : Mu} {a : Addr} {ks vs : List D} {kv vv : List V}
theorem dct_obj (I : Inv X pins σ H s) {o : Obj} (h : H a = some (dHO a o)) : s.heap.get? a = some o := (show ObjOk X.prog X.w H s.heap a (dHO a o) from I.hok a _ h).1
theorem pairs_m2 {P : Program} {w w' : World} {K : PySem.W.Frag} : ∀ {es : List DictEntry} {ks : List D} {kv : List V}, Dens w' K mu H kv ks → ks.all D.isLeaf = true → Vals kv (es.map (·.key)) → Pairs (mixKind P w) es (m2 lk ks (es.map (·.val)))
  | [], _, _, h, _, r => by
    cases r
    cases h
    exact .nil
  | e :: es, _, _, h, hl, r => by
    cases r with
    | cons r1 r2 => cases h with
      | @cons _ k _ l h1 h2 =>
        obtain ⟨l1, l2⟩ := Bool.and_eq_true_iff.mp (show (k.isLeaf && l.all D.isLeaf) = true by simpa using hl)
        exact .cons (leaf_is l1 h1 r1).1 rfl (pairs_m2 h2 l2 r2)
theorem keys_m2 {P : Program} {w w' : World} {K : PySem.W.Frag} : ∀ {es : List DictEntry} {ks : List D} {kv : List V}, Dens w' K mu H kv ks → ks.all D.isLeaf = true → Vals kv (es.map (·.key)) → es.map (·.hash) = ks.map (fun k => (nk k).hash w) →
    ∀ e ∈ es, ∃ k, (mixKind P w).is k e.key = true ∧ e.hash = (mixKind P w).hash k
  | [], _, _, _, _, _, _, _, he => nomatch he
  | e :: es, _, _, h, hl, r, hh, e', he => by
    cases r with
    | cons r1 r2 => cases h with
      | @cons _ k _ l h1 h2 =>
        obtain ⟨l1, l2⟩ := Bool.and_eq_true_iff.mp (show (k.isLeaf && l.all D.isLeaf) = true by simpa using hl)
        rw [List.map_cons, List.map_cons] at hh
        obtain ⟨q1, q2⟩ := List.cons.inj hh
        rcases List.mem_cons.mp he with rfl | he
        · exact ⟨lk k, (leaf_is l1 h1 r1).1, by rw [q1]; exact isLeaf_hash l1⟩
        · exact keys_m2 h2 l2 r2 q2 e' he
/-- numbers and texts as keys -/
theorem dct_leaf (I : Inv X pins σ H s) (h : DctAt X.w H a ks kv vv) (r : Dens X.w X.K mu H kv ks) (hl : ks.all D.isLeaf = true) (hn : kNodup ks) :
    ∃ us, Vals vv us ∧ us.length = ks.length ∧ s.heap.DictOf (mixKind X.prog X.w) a (m2 lk ks us) := by
  obtain ⟨o, es, ep, h1, h2, h3, h4, h5, h6, h7, h8⟩ := h
  have hlen : (es.toList.map (·.val)).length = ks.length := by
    have := congrArg List.length h8
    simpa using this
  refine ⟨es.toList.map (·.val), h7, hlen, o, es, ep, dct_obj I h1, h2, h3, fun e he => ?_, pairs_m2 r hl h6, m2_nodup lk hlen (fun x hx y hy => isLeaf_eqv (all_leaf hl x hx) (all_leaf hl y hy)) hn⟩
  exact keys_m2 r hl h6 h8 e (Array.mem_toList_iff.mpr he)
theorem tk_refs {w : World} {K : PySem.W.Frag} : ∀ {ks : List D} {kv : List V}, Dens w K mu H kv ks → ks.all D.isTK = true → ∃ as : List Addr, kv = as.map V.ref
  | _, _, .nil, _ => ⟨[], rfl⟩
  | _, _, .cons (d := d) (l := l) h r, hl => by
    obtain ⟨l1, l2⟩ := Bool.and_eq_true_iff.mp (show (d.isTK && l.all D.isTK) = true by simpa using hl)
    obtain ⟨as, rfl⟩ := tk_refs r l2
    obtain ⟨l, rfl, _⟩ := isTK_key l1
    cases h with
    | @tup a xs _ h1 h2 => exact ⟨a :: as, rfl⟩
theorem entries_m2 {w : World} {P : Program} : ∀ {es : List DictEntry} {ks : List D} {as : List Addr}, Vals (as.map V.ref) (es.map (·.key)) → es.map (·.hash) = ks.map (fun k => (nk k).hash w) → as.length = ks.length →
    es = (m2 nk ks (as.zip (es.map (·.val)))).map (entryOfKey (nestedKind P w))
  | [], [], [], _, _, _ => rfl
  | [], [], _ :: _, _, _, h => by simp at h
  | [], _ :: _, _, _, h, _ => by simp at h
  | _ :: _, [], _, _, h, _ => by simp at h
  | _ :: _, _ :: _, [], _, _, h => by simp at h
  | e :: es, k :: ks, a :: as, r, hh, hl => by
    cases r with
    | cons r1 r2 =>
      rw [List.map_cons, List.map_cons] at hh
      obtain ⟨q1, q2⟩ := List.cons.inj hh
      have ih := entries_m2 (P := P) r2 q2 (by simpa using hl)
      show e :: es = entryOfKey (nestedKind P w) (nk k, a, e.val) :: (m2 nk ks (as.zip (es.map (·.val)))).map (entryOfKey (nestedKind P w))
      rw [← ih]
      congr 1
      obtain ⟨hs, ky, vl⟩ := e
      have e1 : ky = .ref a := r1
      have e2 : hs = (nk k).hash w := q1
      subst e1 e2
      rfl
theorem is_m2 (I : Inv X pins σ H s) : ∀ {ks : List D} {as : List Addr} {us : List Value}, Dens X.w X.K mu H (as.map V.ref) ks → ks.all D.isTK = true → as.length = us.length → ∀ x ∈ m2 nk ks (as.zip us), (nestedKind X.prog X.w).is s.heap x.1 x.2.1
  | [], [], _, _, _, _, _, hx => nomatch hx
  | [], _ :: _, _, h, _, _, _, _ => by cases h
  | _ :: _, [], _, h, _, _, _, _ => by cases h
  | _ :: _, _ :: _, [], _, _, h, _, _ => by simp at h
  | k :: ks, a :: as, u :: us, h, hl, hz, x, hx => by
    cases h with
    | cons h1 h2 =>
      obtain ⟨l1, l2⟩ := Bool.and_eq_true_iff.mp (show (k.isTK && ks.all D.isTK) = true by simpa using hl)
      rcases List.mem_cons.mp (show x ∈ (nk k, a, u) :: m2 nk ks (as.zip us) from hx) with rfl | hx
      · obtain ⟨_, _, f⟩ := isTK_key l1
        exact ⟨den_nested I k 8 _ _ h1 rfl f, nk_depth k 8 f⟩
      · exact is_m2 I h2 l2 (by simpa using hz) x hx
/-- tuples as keys -/
theorem dct_tk (I : Inv X pins σ H s) (h : DctAt X.w H a ks kv vv) (r : Dens X.w X.K mu H kv ks) (hl : ks.all D.isTK = true) (hn : kNodup ks) :
    ∃ (as : List Addr) (us : List Value), kv = as.map V.ref ∧ as.length = ks.length ∧ Vals vv us ∧ us.length = ks.length ∧ s.heap.DictOfH (nestedKind X.prog X.w) a (m2 nk ks (as.zip us)) := by
  obtain ⟨o, es, ep, h1, h2, h3, h4, h5, h6, h7, h8⟩ := h
  have hlen : (es.toList.map (·.val)).length = ks.length := by
    have := congrArg List.length h8
    simpa using this
  obtain ⟨as, rfl⟩ := tk_refs r hl
  have hal : as.length = ks.length := by have := r.length; simpa using this
  have hzl : (as.zip (es.toList.map (·.val))).length = ks.length := by rw [List.length_zip, hal, hlen]; simp
  exact ⟨as, es.toList.map (·.val), rfl, hal, h7, hlen, o, es, ep, dct_obj I h1, h2, h3, entries_m2 h6 h8 hal, is_m2 I r hl (by rw [hal, hlen]), m2_nodup nk hzl (fun x hx y hy => isTK_eqv (all_tk hl x hx) (all_tk hl y hy)) hn⟩
/-! ### behind a store -/
theorem vals_keys {P : Program} {w : World} : ∀ {es : List DictEntry} {ks : List D} {us : List Value}, us.length = ks.length → Pairs (mixKind P w) es (m2 lk ks us) → ks.all D.isLeaf = true → Vals (ks.map fun k => kV (lk k)) (es.map (·.key)) ∧ es.map (·.val) = us
  | [], [], [], _, _, _ => ⟨.nil, rfl⟩
  | [], [], _ :: _, h, _, _ => by simp at h
  | [], _ :: _, [], h, _, _ => by simp at h
  | [], k :: ks, u :: us, _, h, _ => by cases h
  | _ :: _, [], [], _, h, _ => by cases h
  | _ :: _, [], _ :: _, h, _, _ => by simp at h
  | _ :: _, _ :: _, [], h, _, _ => by simp at h
  | e :: es, k :: ks, u :: us, hz, h, hl => by
    obtain ⟨l1, l2⟩ := Bool.and_eq_true_iff.mp (show (k.isLeaf && ks.all D.isLeaf) = true by simpa using hl)
    have h' : Pairs (mixKind P w) (e :: es) ((lk k, u) :: m2 lk ks us) := h
    cases h' with
    | cons h1 h2 h3 =>
      obtain ⟨q1, q2⟩ := vals_keys (by simpa using hz) h3 l2
      refine ⟨.cons ?_ q1, by rw [List.map_cons, q2]; exact congrArg (· :: us) h2⟩
      have h1' : keyIs (lk k) e.key = true := h1
      rcases keyIs_shape h1' with ⟨i, t, e1, e2⟩ | ⟨x, t, e1, e2⟩
      · show RelV (kV (lk k)) e.key
        rw [e1, e2]; exact ⟨t, rfl⟩
      · show RelV (kV (lk k)) e.key
        rw [e1, e2]; exact ⟨t, rfl⟩
theorem hash_keys {P : Program} {w : World} : ∀ {es : List DictEntry} {ks : List D} {us : List Value}, us.length = ks.length → Pairs (mixKind P w) es (m2 lk ks us) → ks.all D.isLeaf = true → (∀ e ∈ es, ∃ k, (mixKind P w).is k e.key = true ∧ e.hash = (mixKind P w).hash k) → es.map (·.hash) = ks.map fun k => (nk k).hash w
  | [], [], [], _, _, _, _ => rfl
  | [], [], _ :: _, h, _, _, _ => by simp at h
  | [], _ :: _, [], h, _, _, _ => by simp at h
  | [], k :: ks, u :: us, _, h, _, _ => by cases h
  | _ :: _, [], [], _, h, _, _ => by cases h
  | _ :: _, [], _ :: _, h, _, _, _ => by simp at h
  | _ :: _, _ :: _, [], h, _, _, _ => by simp at h
  | e :: es, k :: ks, u :: us, hz, h, hl, hk => by
    obtain ⟨l1, l2⟩ := Bool.and_eq_true_iff.mp (show (k.isLeaf && ks.all D.isLeaf) = true by simpa using hl)
    have h' : Pairs (mixKind P w) (e :: es) ((lk k, u) :: m2 lk ks us) := h
    cases h' with
    | cons h1 h2 h3 =>
      rw [List.map_cons, List.map_cons, hash_keys (by simpa using hz) h3 l2 fun e' he' => hk e' (List.mem_cons_of_mem _ he')]
      congr 1
      obtain ⟨k', q1, q2⟩ := hk e List.mem_cons_self
      have : k' = lk k := (mixKind P w).inj _ _ _ q1 h1
      rw [q2, this, isLeaf_hash l1]
      rfl
theorem dct_of_leaf {h' : Heap} {P : Program} {w : World} {us : List Value} (dd : h'.DictOf (mixKind P w) a (m2 lk ks us)) (hu : us.length = ks.length) (hz : ks.length ≤ sizeLine) (hs : (a == sysModules) = false) (hl : ks.all D.isLeaf = true) :
    ∃ o, h'.get? a = some o ∧ ∀ (H : Hp) (vv : List V), Vals vv us → H a = some (dHO a o) → DctAt w H a ks (ks.map fun k => kV (lk k)) vv := by
  obtain ⟨o, es, ep, h1, h2, h3, h4, h5, h6⟩ := dd
  obtain ⟨q1, q2⟩ := vals_keys hu h5 hl
  refine ⟨o, h1, fun H vv hv hH => ⟨o, es, ep, hH, h2, h3, hs, ?_, q1, by rw [q2]; exact hv, hash_keys hu h5 hl fun e he => h4 e (Array.mem_toList_iff.mp he)⟩⟩
  have := h5.length
  have e2 : (m2 lk ks us).length = ks.length := by rw [← List.length_map (f := (·.1)), m2_fst lk hu, List.length_map]
  rw [e2] at this
  simpa using (show es.toList.length ≤ sizeLine by omega)
theorem dct_of_tk {h' : Heap} {P : Program} {w : World} {as : List Addr} {us : List Value} (dd : h'.DictOfH (nestedKind P w) a (m2 nk ks (as.zip us))) (ha : as.length = ks.length) (hu : us.length = ks.length) (hz : ks.length ≤ sizeLine) (hs : (a == sysModules) = false) :
    ∃ o, h'.get? a = some o ∧ ∀ (H : Hp) (vv : List V), Vals vv us → H a = some (dHO a o) → DctAt w H a ks (as.map V.ref) vv := by
  obtain ⟨o, es, ep, h1, h2, h3, h4, h5, h6⟩ := dd
  have key : ∀ {ks : List D} {as : List Addr} {us : List Value}, as.length = ks.length → us.length = ks.length → Vals (as.map V.ref) (((m2 nk ks (as.zip us)).map (entryOfKey (nestedKind P w))).map (·.key)) ∧ ((m2 nk ks (as.zip us)).map (entryOfKey (nestedKind P w))).map (·.val) = us ∧ ((m2 nk ks (as.zip us)).map (entryOfKey (nestedKind P w))).map (·.hash) = ks.map fun k => (nk k).hash w := by
    intro ks
    induction ks with
    | nil =>
      intro as us e1 e2
      cases as with
      | nil => cases us with
        | nil => exact ⟨.nil, rfl, rfl⟩
        | cons _ _ => simp at e2
      | cons _ _ => simp at e1
    | cons k ks ih =>
      intro as us e1 e2
      cases as with
      | nil => simp at e1
      | cons b as => cases us with
        | nil => simp at e2
        | cons u us =>
          obtain ⟨i1, i2, i3⟩ := ih (as := as) (us := us) (by simpa using e1) (by simpa using e2)
          exact ⟨.cons rfl i1, congrArg (u :: ·) i2, congrArg ((nk k).hash w :: ·) i3⟩
  obtain ⟨i1, i2, i3⟩ := key ha hu
  rw [← h4] at i1 i2 i3
  refine ⟨o, h1, fun H vv hv hH => ⟨o, es, ep, hH, h2, h3, hs, ?_, i1, by rw [i2]; exact hv, i3⟩⟩
  have := congrArg List.length i2
  simpa using (show es.toList.length ≤ sizeLine by rw [List.length_map] at this; omega)
end
end PI
set_option Elab.async false
set_option linter.all false
set_option maxRecDepth 100000
set_option maxHeartbeats 4000000
/-! PI, part H: what is done with a dict. -/
namespace PI
open PySem PySem.Spec PyProof.Rows L2
section
variable {κ : Type} [DecidableEq κ] (f : D → κ)
theorem m2_mod {β : Type} {k : D} (hm : β → β) (g : κ × β → κ × β) (hg : ∀ x u, g (f x, u) = if f x = f k then (f x, hm u) else (f x, u)) : ∀ {ks : List D} {us : List β} {j : Nat}, us.length = ks.length → (∀ x ∈ ks, D.eqv x k = decide (f x = f k)) → (∀ x ∈ ks, ∀ y ∈ ks, D.eqv x y = decide (f x = f y)) → kNodup ks → keyAt k ks = some j → (m2 f ks us).map g = m2 f ks (us.modify j hm)
  | [], [], _, _, _, _, _, e => by cases e
  | x :: ks, u :: us, j, h, he, hee, hn, e => by
    rw [keyAt_cons, he x List.mem_cons_self] at e
    show g (f x, u) :: (m2 f ks us).map g = _
    rw [hg]
    by_cases q : f x = f k
    · simp only [q, decide_true, if_true] at e
      cases e
      rw [if_pos q]
      show (f x, hm u) :: (m2 f ks us).map g = (f x, hm u) :: m2 f ks us
      congr 1
      have hne : ∀ y ∈ ks, f y ≠ f k := fun y hy z => by
        have a := hn.1 y hy
        rw [hee x List.mem_cons_self y (List.mem_cons_of_mem _ hy), q, z] at a
        simp at a
      have hl : us.length = ks.length := by simpa using h
      clear h he hee hn
      induction ks generalizing us with
      | nil => cases us with
        | nil => rfl
        | cons _ _ => simp at hl
      | cons y ks ih => cases us with
        | nil => simp at hl
        | cons w us =>
          show g (f y, w) :: (m2 f ks us).map g = (f y, w) :: m2 f ks us
          rw [hg, if_neg (hne y List.mem_cons_self), ih (us := us) (fun z hz => hne z (List.mem_cons_of_mem _ hz)) (by simpa using hl)]
    · simp only [q, decide_false, Bool.false_eq_true, if_false] at e
      rw [if_neg q]
      cases e2 : keyAt k ks with
      | none => rw [e2] at e; cases e
      | some i =>
        rw [e2] at e
        cases e
        show (f x, u) :: (m2 f ks us).map g = (f x, u) :: m2 f ks (us.modify i hm)
        rw [m2_mod hm g hg (ks := ks) (us := us) (by simpa using h) (fun y hy => he y (List.mem_cons_of_mem _ hy)) (fun y hy z hz => hee y (List.mem_cons_of_mem _ hy) z (List.mem_cons_of_mem _ hz)) hn.2 e2]
end
theorem zip_mod {as : List Addr} {us : List Value} {r : Value} : ∀ {j : Nat}, (as.zip us).modify j (fun p => (p.1, r)) = as.zip (us.set j r) := by
  induction as generalizing us with
  | nil => intro j; cases j <;> rfl
  | cons a as ih => cases us with
    | nil => intro j; cases j <;> rfl
    | cons u us => intro j; cases j with
      | zero => rfl
      | succ j =>
        show (a, u) :: (as.zip us).modify j (fun p => (p.1, r)) = (a, u) :: as.zip (us.set j r)
        rw [ih]
/-- a tuple's own place among the keys' -/
def putAs (k : D) (ks : List D) (as : List Addr) (b : Addr) : List Addr := match keyAt k ks with
  | some _ => as
  | none => as ++ [b]
theorem m2_at {k : D} {ks : List D} {as : List Addr} {us : List Value} (ha : as.length = ks.length) (hu : us.length = ks.length) (he : ∀ x ∈ ks, D.eqv x k = decide (nk x = nk k)) : (atKey (m2 nk ks (as.zip us)) (nk k)).map (·.2) = (keyAt k ks).bind fun j => us[j]? := by
  have hz : (as.zip us).length = ks.length := by rw [List.length_zip, ha, hu, Nat.min_self]
  unfold atKey
  rw [m2_find nk hz he]
  cases e : keyAt k ks with
  | none => rfl
  | some j =>
    obtain ⟨_, _, _, hj⟩ := keyAt_some e
    show ((as.zip us)[j]?).map (·.2) = us[j]?
    have h1 : j < as.length := by omega
    have h2 : j < us.length := by omega
    rw [List.getElem?_eq_getElem (by omega : j < (as.zip us).length), List.getElem?_eq_getElem h2]
    simp
theorem m2_storedH {k : D} {ks : List D} {as : List Addr} {us : List Value} {b : Addr} {r : Value} (ha : as.length = ks.length) (hu : us.length = ks.length) (he : ∀ x ∈ ks, D.eqv x k = decide (nk x = nk k)) (hee : ∀ x ∈ ks, ∀ y ∈ ks, D.eqv x y = decide (nk x = nk y)) (hn : kNodup ks) :
    storedH (m2 nk ks (as.zip us)) (nk k) b r = m2 nk (putKs k ks) ((putAs k ks as b).zip (putV k ks us r)) := by
  have hz : (as.zip us).length = ks.length := by rw [List.length_zip, ha, hu, Nat.min_self]
  have hq : (atKey (m2 nk ks (as.zip us)) (nk k)).isSome = (keyAt k ks).isSome := by
    have h1 := m2_at (k := k) ha hu he
    cases e : keyAt k ks with
    | none =>
      rw [e] at h1
      rw [Option.map_eq_none_iff.mp h1]
      rfl
    | some j =>
      obtain ⟨_, _, _, hj⟩ := keyAt_some e
      rw [e] at h1
      have h2 : us[j]? = some us[j] := List.getElem?_eq_getElem (by omega)
      have h3 : (atKey (m2 nk ks (as.zip us)) (nk k)).map (·.2) = some us[j] := h1.trans h2
      obtain ⟨p, hp, _⟩ := Option.map_eq_some_iff.mp h3
      rw [hp]
      rfl
  unfold storedH putKs putAs putV
  rw [hq]
  cases e : keyAt k ks with
  | none =>
    simp only [Option.isSome_none, Bool.false_eq_true, if_false]
    rw [List.zip_append (by omega)]
    exact (m2_append nk hz).symm
  | some j =>
    simp only [Option.isSome_some, if_true]
    rw [m2_mod nk (fun p => (p.1, r)) (putAt (nk k) r) (fun x u => by unfold putAt; rfl) hz he hee hn e, zip_mod]
section
variable {X : Cx} {pins : List (Addr × Obj)} {σ : L2.St} {H : Hp} {s : Shared} {mu : Mu} {a : Addr} {ks vs : List D} {kv vv : List V} {k : D} {y : V} {u : Value} {A : Around} {E : Value → Shared → Prop}
/-- a dict by its keys and values -/
structure DQ' (w : World) (K : PySem.W.Frag) (mu : Mu) (H : Hp) (a : Addr) (ks vs : List D) (kv vv : List V) : Prop where
  at_ : DctAt w H a ks kv vv
  nd : kNodup ks
  kr : Dens w K mu H kv ks
  vr : Dens w K mu H vv vs
abbrev DQ (X : Cx) (mu : Mu) (H : Hp) (a : Addr) (ks vs : List D) (kv vv : List V) : Prop := DQ' X.w X.K mu H a ks vs kv vv
theorem fam_cases (f : famOk k ks = true) : (k.isLeaf = true ∧ ks.all D.isLeaf = true) ∨ (k.isTK = true ∧ ks.all D.isTK = true) := by
  unfold famOk at f
  rcases Bool.or_eq_true_iff.mp f with h | h
  · exact .inl (Bool.and_eq_true_iff.mp h)
  · exact .inr (Bool.and_eq_true_iff.mp h)
theorem tk_is (I : Inv X pins σ H s) (hk : k.isTK = true) (hd : Den X.w X.K mu H y k) (ry : RelV y u) : ∃ b, u = .ref b ∧ y = .ref b ∧ (nestedKind X.prog X.w).is s.heap (nk k) b := by
  obtain ⟨l, e, f⟩ := isTK_key hk
  have z := den_nested I k 8 y u hd ry f
  subst e
  cases hd with
  | @tup b xs _ h1 h2 => exact ⟨b, ry, rfl, by cases ry; exact z, nk_depth _ 8 f⟩
theorem valueAt_is {k' : Key} (hk : lk k = k') (hu : ∀ x ∈ ks, D.eqv x k = decide (lk x = lk k)) {us : List Value} (hl : us.length = ks.length) : valueAt (m2 lk ks us) k' = (keyAt k ks).bind fun j => us[j]? := by
  subst hk
  exact m2_value lk hl hu
theorem leaf_all (h1 : k.isLeaf = true) (h2 : ks.all D.isLeaf = true) : ∀ x ∈ ks, D.eqv x k = decide (lk x = lk k) := fun x hx => isLeaf_eqv (all_leaf h2 x hx) h1
theorem tk_all (h1 : k.isTK = true) (h2 : ks.all D.isTK = true) : ∀ x ∈ ks, D.eqv x k = decide (nk x = nk k) := fun x hx => isTK_eqv (all_tk h2 x hx) h1
theorem bind_isSome {us : List Value} (hl : us.length = ks.length) : ((keyAt k ks).bind fun j => us[j]?).isSome = (keyAt k ks).isSome := by
  cases e : keyAt k ks with
  | none => rfl
  | some j =>
    obtain ⟨_, _, _, hj⟩ := keyAt_some e
    show (us[j]?).isSome = true
    rw [List.getElem?_eq_getElem (by omega)]
    rfl
/-- y in d -/
theorem d_inD {Q : Value → Shared → Prop} (hu : A.in1.units + 8 < cLine) (I : Inv X pins σ H s) (q : DQ X mu H a ks vs kv vv) (f : famOk k ks = true) (hk : Den X.w X.K mu H y k) (ry : RelV y u) (h : ∀ s', Inv X pins σ H s' → Q (.bool (keyAt k ks).isSome) s') :
    wpAny (model X.prog X.w) A (compareOp .In u (.ref a)) Q E s := by
  have hs : (a == sysModules) = false := let ⟨_, _, _, _, _, _, z, _⟩ := q.at_; z
  rcases fam_cases f with ⟨f1, f2⟩ | ⟨f1, f2⟩
  · obtain ⟨us, r, hl, dd⟩ := dct_leaf I q.at_ q.kr f2 q.nd
    refine wpAny_in_of (leaf_is f1 hk ry).1 hs dd.mapOf ?_
    rw [m2_value lk hl (leaf_all f1 f2), bind_isSome hl]
    exact h _ (I.tok _)
  · obtain ⟨as, us, ek, ha, r, hl, dd⟩ := dct_tk I q.at_ q.kr f2 q.nd
    obtain ⟨b, rfl, _, hb⟩ := tk_is I f1 hk ry
    refine wpAny_in_heap hu hb hs dd ?_
    have z := m2_at (k := k) ha hl (tk_all f1 f2)
    rw [← Option.isSome_map (f := (·.2)), z, bind_isSome hl]
    exact h _ (I.tok _)
theorem d_notInD {Q : Value → Shared → Prop} (hu : A.in1.units + 8 < cLine) (I : Inv X pins σ H s) (q : DQ X mu H a ks vs kv vv) (f : famOk k ks = true) (hk : Den X.w X.K mu H y k) (ry : RelV y u) (h : ∀ s', Inv X pins σ H s' → Q (.bool (!(keyAt k ks).isSome)) s') :
    wpAny (model X.prog X.w) A (compareOp .NotIn u (.ref a)) Q E s := by
  have hs : (a == sysModules) = false := let ⟨_, _, _, _, _, _, z, _⟩ := q.at_; z
  rcases fam_cases f with ⟨f1, f2⟩ | ⟨f1, f2⟩
  · obtain ⟨us, r, hl, dd⟩ := dct_leaf I q.at_ q.kr f2 q.nd
    refine wpAny_notIn_of (leaf_is f1 hk ry).1 hs dd.mapOf ?_
    rw [m2_value lk hl (leaf_all f1 f2), bind_isSome hl]
    exact h _ (I.tok _)
  · obtain ⟨as, us, ek, ha, r, hl, dd⟩ := dct_tk I q.at_ q.kr f2 q.nd
    obtain ⟨b, rfl, _, hb⟩ := tk_is I f1 hk ry
    refine wpAny_notIn_heap hu hb hs dd ?_
    have z := m2_at (k := k) ha hl (tk_all f1 f2)
    rw [← Option.isSome_map (f := (·.2)), z, bind_isSome hl]
    exact h _ (I.tok _)
/-- d[y] -/
theorem d_getD {Q : Value → Shared → Prop} {j : Nat} {v : V} (hu : A.in1.units + 8 < cLine) (I : Inv X pins σ H s) (q : DQ X mu H a ks vs kv vv) (f : famOk k ks = true) (hk : Den X.w X.K mu H y k) (ry : RelV y u) (hj : keyAt k ks = some j) (hv : vv[j]? = some v) (h : ∀ w' s', Inv X pins σ H s' → RelV v w' → Q w' s') :
    wpAny (model X.prog X.w) A (getItem (.ref a) u) Q E s := by
  rcases fam_cases f with ⟨f1, f2⟩ | ⟨f1, f2⟩
  · obtain ⟨us, r, hl, dd⟩ := dct_leaf I q.at_ q.kr f2 q.nd
    obtain ⟨w', e1, e2⟩ := Vals.get r hv
    refine wpAny_getItem_of (leaf_is f1 hk ry).1 dd.mapOf (v := w') ?_ (h _ _ (I.tok _) e2)
    rw [m2_value lk hl (leaf_all f1 f2), hj]
    exact e1
  · obtain ⟨as, us, ek, ha, r, hl, dd⟩ := dct_tk I q.at_ q.kr f2 q.nd
    obtain ⟨b, rfl, _, hb⟩ := tk_is I f1 hk ry
    obtain ⟨w', e1, e2⟩ := Vals.get r hv
    have z := m2_at (k := k) ha hl (tk_all f1 f2)
    rw [hj] at z
    have z' : (atKey (m2 nk ks (as.zip us)) (nk k)).map (·.2) = some w' := z.trans e1
    obtain ⟨p, hp, e⟩ := Option.map_eq_some_iff.mp z'
    refine wpAny_getItem_heap hu hb dd hp ?_
    rw [e]
    exact h _ _ (I.tok _) e2
theorem putKs_len (k : D) (ks : List D) : (putKs k ks).length ≤ ks.length + 1 := by
  unfold putKs
  cases keyAt k ks with
  | some _ => exact Nat.le_succ _
  | none => simp
theorem putKs_fam (f : famOk k ks = true) : okKeys (putKs k ks) = true := by
  unfold okKeys
  rcases fam_cases f with ⟨f1, f2⟩ | ⟨f1, f2⟩
  · rw [putKs_all f2 f1]; rfl
  · rw [putKs_all f2 f1, Bool.or_true]
/-- what a store in a dict leaves: at the address an object that is so -/
def DPutD (X : Cx) (mu : Mu) (H : Hp) (a : Addr) (ks vs : List D) (k : D) (h' : Heap) (v : V) (vv : List V) : Prop :=
  ∃ o kv', h'.get? a = some o ∧ kNodup (putKs k ks) ∧ Dens X.w X.K mu H kv' (putKs k ks) ∧ ∀ H', H' a = some (dHO a o) → DctAt X.w H' a (putKs k ks) kv' (putV k ks vv v)
/-- d[y] = v by any of the roads that store -/
theorem d_putD {v : V} {r : Value} {f : Sem Unit} {Q : Unit → Shared → Prop} (I : Inv X pins σ H s) (q : DQ X mu H a ks vs kv vv) (fam : famOk k ks = true) (hk : Den X.w X.K mu H y k) (ry : RelV y u) (rv : RelV v r) (hz : ks.length < sizeLine)
    (leaf : ∀ (k' : Key) (kvs : List (Key × Value)), (mixKind X.prog X.w).is k' u = true → s.heap.DictOf (mixKind X.prog X.w) a kvs → kvs.length ≤ sizeLine → (∀ h', h'.DictOf (mixKind X.prog X.w) a (stored kvs k' r) → Heap.SameBut a s.heap h' → Q () { s with heap := h', toks := s.toks + 1 }) → wpAny (model X.prog X.w) A f Q E s)
    (tk : ∀ (b : Addr) (k' : NestedKey) (xs : List (NestedKey × Addr × Value)), u = .ref b → (nestedKind X.prog X.w).is s.heap k' b → s.heap.DictOfH (nestedKind X.prog X.w) a xs → xs.length ≤ sizeLine → (∀ h', h'.DictOfH (nestedKind X.prog X.w) a (storedH xs k' b r) → Heap.SameBut a s.heap h' → Q () { s with heap := h', toks := s.toks + (nestedKind X.prog X.w).draws k' }) → wpAny (model X.prog X.w) A f Q E s)
    (h : ∀ h' t', Heap.SameBut a s.heap h' → DPutD X mu H a ks vs k h' v vv → Q () { s with heap := h', toks := t' }) : wpAny (model X.prog X.w) A f Q E s := by
  have hs : (a == sysModules) = false := let ⟨_, _, _, _, _, _, z, _⟩ := q.at_; z
  have hle : (putKs k ks).length ≤ sizeLine := by have := putKs_len k ks; omega
  rcases fam_cases fam with ⟨f1, f2⟩ | ⟨f1, f2⟩
  · obtain ⟨us, ru, hl, dd⟩ := dct_leaf I q.at_ q.kr f2 q.nd
    have hml : (m2 lk ks us).length = ks.length := by rw [← List.length_map (f := (·.1)), m2_fst lk hl, List.length_map]
    refine leaf _ _ (leaf_is f1 hk ry).1 dd (by omega) fun h' dd' hs' => h h' _ hs' ?_
    rw [m2_stored lk hl (leaf_all f1 f2) (fun x hx y hy => isLeaf_eqv (all_leaf f2 x hx) (all_leaf f2 y hy)) q.nd] at dd'
    have g2 := putKs_all (k := k) f2 f1
    obtain ⟨o, ho, mk⟩ := dct_of_leaf dd' (putV_length k ks us r hl) hle hs g2
    refine ⟨o, _, ho, kNodup_put lk (fun x hx y hy => isLeaf_eqv ?_ ?_) q.nd, kV_dens g2, fun H' hH => mk H' _ (vals_putV k ks ru rv) hH⟩
    · rcases List.mem_cons.mp hx with rfl | hx
      · exact f1
      · exact all_leaf f2 x hx
    · rcases List.mem_cons.mp hy with rfl | hy
      · exact f1
      · exact all_leaf f2 y hy
  · obtain ⟨as, us, ek, ha, ru, hl, dd⟩ := dct_tk I q.at_ q.kr f2 q.nd
    obtain ⟨b, rfl, rfl, hb⟩ := tk_is I f1 hk ry
    have hzl : (as.zip us).length = ks.length := by rw [List.length_zip, ha, hl, Nat.min_self]
    have hml : (m2 nk ks (as.zip us)).length = ks.length := by rw [← List.length_map (f := (·.1)), m2_fst nk hzl, List.length_map]
    refine tk b _ _ rfl hb dd (by omega) fun h' dd' hs' => h h' _ hs' ?_
    rw [m2_storedH ha hl (tk_all f1 f2) (fun x hx y hy => isTK_eqv (all_tk f2 x hx) (all_tk f2 y hy)) q.nd] at dd'
    have hal : (putAs k ks as b).length = (putKs k ks).length := by
      unfold putAs putKs
      cases keyAt k ks <;> simp [ha]
    obtain ⟨o, ho, mk⟩ := dct_of_tk dd' hal (putV_length k ks us r hl) hle hs
    subst ek
    have dn : Dens X.w X.K mu H ((putAs k ks as b).map V.ref) (putKs k ks) := by
      unfold putAs putKs
      cases keyAt k ks with
      | some _ => exact q.kr
      | none => rw [List.map_append]; exact q.kr.append (.cons hk .nil)
    refine ⟨o, _, ho, kNodup_put nk (fun x hx y hy => isTK_eqv ?_ ?_) q.nd, dn, fun H' hH => mk H' _ (vals_putV k ks ru rv) hH⟩
    · rcases List.mem_cons.mp hx with rfl | hx
      · exact f1
      · exact all_tk f2 x hx
    · rcases List.mem_cons.mp hy with rfl | hy
      · exact f1
      · exact all_tk f2 y hy
end
end PI
set_option Elab.async false
set_option linter.all false
set_option maxRecDepth 100000
set_option maxHeartbeats 4000000
/-! PI, part I: in, <, [i], [i] = v, slices by values. -/
namespace PI
open PySem PySem.Spec PyProof.Rows L2
section
variable {X : Cx} {m : Bool}
/-! ### in -/
theorem any_py {x : D} (hx : x.plain = true) : ∀ {l : List D}, D.fitL l 49 = true → ((pys l).any fun z => PyData.eqv z (py x)) = memD x l
  | [], _ => rfl
  | d :: r, h => by
    obtain ⟨h1, h2⟩ := Bool.and_eq_true_iff.mp (show (d.fitN 49 && D.fitL r 49) = true from h)
    show (PyData.eqv (py d) (py x) || (pys r).any fun z => PyData.eqv z (py x)) = (D.eqv d x || memD x r)
    rw [any_py hx h2, py_eqv d x 49 50 h1 hx]
theorem can_pys {l : List D} (h : D.plainL l = true) : PyData.canLayAll0 (pys l) = true := (py_canL l 49 h).1
theorem can_py {d : D} (h : d.plain = true) : (py d).canLay0 = true := (py_can d 50 h).1
theorem room_py {d : D} {ds : List PyData} (h : d.plain = true) (hu : X.A.units + 65 < cLine) : X.A.units + 1 + min (PyData.depthAll ds) (py d).depth < cLine := by
  have h1 := (py_can d 50 h).2
  have h2 : min (PyData.depthAll ds) (py d).depth ≤ (py d).depth := Nat.min_le_right _ _
  omega
theorem opD_inBoth (hu : X.A.units + 65 < cLine) (hu2 : X.A.in1.units + 8 < cLine) {pins : List (Addr × Obj)} {σ : L2.St} {H : Hp} {s : Shared} {x y : V} {v u : Value} {mu : Mu} {st : Store} {d e : D} {W : WD} {R : Bool → Store → Mu → Hp → Prop} {E : Value → Shared → Prop}
    (I : Inv X pins σ H s) (rx : RelV x v) (ry : RelV y u) (hd : Den X.w X.K mu H x d) (he : Den X.w X.K mu H y e) (S : RSt X.w X.K mu H st) (h : run X.w X.K (inD d e st) mu H W R) :
    (∀ Q : Value → Shared → Prop, (∀ b s', Inv X pins σ H s' → R b st mu H → Q (.bool b) s') → wpAny (model X.prog X.w) X.A (compareOp .In v u) Q E s) ∧
    (∀ Q : Value → Shared → Prop, (∀ b s', Inv X pins σ H s' → R b st mu H → Q (.bool (!b)) s') → wpAny (model X.prog X.w) X.A (compareOp .NotIn v u) Q E s) := by
  have lists : ∀ {a : Addr} {xs : List V} {l : List D}, u = .ref a → SqL X.K H a xs → Dens X.w X.K mu H xs l → run X.w X.K ((if d.plain = true ∧ D.plainL l = true then .ok (memD d l) st else .bad : Res Bool)) mu H W R →
      (∀ Q : Value → Shared → Prop, (∀ b s', Inv X pins σ H s' → R b st mu H → Q (.bool b) s') → wpAny (model X.prog X.w) X.A (compareOp .In v u) Q E s) ∧
      (∀ Q : Value → Shared → Prop, (∀ b s', Inv X pins σ H s' → R b st mu H → Q (.bool (!b)) s') → wpAny (model X.prog X.w) X.A (compareOp .NotIn v u) Q E s) := fun {a xs l} eu hs hr h => by
    split at h
    · rename_i c
      obtain ⟨as, r1⟩ := Dp.reads I (py d) x v (fit_py hd c.1) rx
      obtain ⟨bs, r2⟩ := Dp.reads I (.list (pys l)) (.ref a) u (.lst hs (fit_pys hr c.2)) eu
      have q := run_ok h S
      refine ⟨fun Q k => SeqAt.in_list_reads r2 r1 (can_pys c.2) (can_py c.1) (room_py c.1 hu) ?_, fun Q k => SeqAt.notIn_list_reads r2 r1 (can_pys c.2) (can_py c.1) (room_py c.1 hu) ?_⟩
      · rw [any_py c.1 c.2]; exact k _ _ I q
      · rw [any_py c.1 c.2]; exact k _ _ I q
    · exact h.elim
  have dicts : ∀ {a : Addr} {ks vs : List D} {kv vv : List V}, u = .ref a → DQ X mu H a ks vs kv vv → run X.w X.K ((if famOk d ks = true then .ok (keyAt d ks).isSome st else .bad : Res Bool)) mu H W R →
      (∀ Q : Value → Shared → Prop, (∀ b s', Inv X pins σ H s' → R b st mu H → Q (.bool b) s') → wpAny (model X.prog X.w) X.A (compareOp .In v u) Q E s) ∧
      (∀ Q : Value → Shared → Prop, (∀ b s', Inv X pins σ H s' → R b st mu H → Q (.bool (!b)) s') → wpAny (model X.prog X.w) X.A (compareOp .NotIn v u) Q E s) := fun {a ks vs kv vv} eu q h => by
    subst eu
    split at h
    · rename_i c
      have z := run_ok h S
      exact ⟨fun Q k => d_inD hu2 I q c hd rx fun s' I' => k _ _ I' z, fun Q k => d_notInD hu2 I q c hd rx fun s' I' => k _ _ I' z⟩
    · exact h.elim
  cases he with
  | @tup a xs l h1 r1 =>
    cases ry
    have h' : run X.w X.K ((if d.plain = true ∧ D.plainL l = true then .ok (memD d l) st else .bad : Res Bool)) mu H W R := h
    split at h'
    · rename_i c
      obtain ⟨as, r1'⟩ := Dp.reads I (py d) x v (fit_py hd c.1) rx
      obtain ⟨bs, r2⟩ := Dp.reads I (.tuple (pys l)) (.ref a) (.ref a) (.tup h1.sq (fit_pys r1 c.2)) rfl
      have q := run_ok h' S
      refine ⟨fun Q k => SeqAt.in_tuple_reads r2 r1' (can_pys c.2) (can_py c.1) (room_py c.1 hu) ?_, fun Q k => SeqAt.notIn_tuple_reads r2 r1' (can_pys c.2) (can_py c.1) (room_py c.1 hu) ?_⟩
      · rw [any_py c.1 c.2]; exact k _ _ I q
      · rw [any_py c.1 c.2]; exact k _ _ I q
    · exact h'.elim
  | lst h1 n r => exact lists ry (SqL.of h1) r h
  | dct h1 n ok nd r q => exact dicts ry ⟨h1, nd, r, q⟩ h
  | @ref a n e =>
    unfold inD at h
    dsimp only at h
    cases q : st[n]? with
    | none => rw [q] at h; exact h.elim
    | some o =>
      rw [q] at h
      cases o with
      | lst l =>
        obtain ⟨xs, h1, h2⟩ := S.at e q
        exact lists ry (SqL.of h1) h2 h
      | dct ks vs =>
        obtain ⟨kv, vv, h1, h2, h3, h4, h5⟩ := S.at e q
        exact dicts ry ⟨h1, h3, h4, h5⟩ h
  | str z =>
    cases hd with
    | str y =>
      obtain ⟨t, rfl⟩ := rx
      obtain ⟨t', rfl⟩ := ry
      have q := run_ok h S
      exact ⟨fun Q k => in_str (k _ _ I q), fun Q k => notIn_str (k _ _ I q)⟩
    | _ => exact h.elim
  | _ => exact h.elim
theorem opD_inn (hu : X.A.units + 65 < cLine) (hu2 : X.A.in1.units + 8 < cLine) : OpR X (compareOp .In) (rOpB X (cmpD .inn)) := by
  intro pins s σ H x y v u Q I rx ry h
  obtain ⟨mu, st, d, e, W, hd, he, R, h⟩ := h
  exact (opD_inBoth hu hu2 I rx ry hd he R h).1 _ fun b s' I' q => ⟨.bl b, H, I', rfl, q⟩
theorem opD_nin (hu : X.A.units + 65 < cLine) (hu2 : X.A.in1.units + 8 < cLine) : OpR X (compareOp .NotIn) (rOpB X (cmpD .nin)) := by
  intro pins s σ H x y v u Q I rx ry h
  obtain ⟨mu, st, d, e, W, hd, he, R, h⟩ := h
  refine (opD_inBoth hu hu2 I rx ry hd he R (run_bind h)).2 _ fun b s' I' q => ⟨.bl (!b), H, I', rfl, ?_⟩
  exact run_pure q R
/-! ### < -/
theorem ltL_ints : ∀ {x y : List D} {ns ms : List Int}, toInts x = some ns → toInts y = some ms → D.ltL? x y = some (HT.lexLt ns ms)
  | [], [], ns, ms, e1, e2 => by cases e1; cases e2; rfl
  | [], d :: r, ns, ms, e1, e2 => by
    cases e1
    cases d with
    | int i =>
      have e3 : (toInts r).map (i :: ·) = some ms := e2
      cases q : toInts r with
      | none => rw [q] at e3; cases e3
      | some js => rw [q] at e3; cases e3; rfl
    | _ => cases e2
  | d :: r, [], ns, ms, e1, e2 => by
    cases e2
    cases d with
    | int i =>
      have e3 : (toInts r).map (i :: ·) = some ns := e1
      cases q : toInts r with
      | none => rw [q] at e3; cases e3
      | some js => rw [q] at e3; cases e3; rfl
    | _ => cases e1
  | d :: r, e :: t, ns, ms, e1, e2 => by
    cases d with
    | int i => cases e with
      | int j =>
        have e3 : (toInts r).map (i :: ·) = some ns := e1
        have e4 : (toInts t).map (j :: ·) = some ms := e2
        cases q : toInts r with
        | none => rw [q] at e3; cases e3
        | some is => cases q2 : toInts t with
          | none => rw [q2] at e4; cases e4
          | some js =>
            rw [q] at e3
            rw [q2] at e4
            cases e3
            cases e4
            show (if (i == j) = true then D.ltL? r t else some (decide (i < j))) = some (if i = j then HT.lexLt is js else decide (i < j))
            rw [ltL_ints q q2]
            by_cases hij : i = j
            · simp [hij]
            · simp [hij]
      | _ => cases e2
    | _ => cases e1
theorem opD_lt (hu : X.A.units + 65 < cLine) : OpR X (compareOp .Lt) (rOpB X (cmpD .lt)) := by
  intro pins s σ H x y v u Q I rx ry h
  obtain ⟨mu, st, d, e, W, hd, he, R, h⟩ := h
  have h : run X.w X.K (ltD d e st) mu H W (fun b _ _ H' => Q (.bl b) H') := h
  cases hd with
  | int i => cases he with
    | int j => exact op_lt pins s σ H _ _ v u Q I rx ry ⟨i, j, rfl, rfl, run_pure h R⟩
    | _ => exact h.elim
  | str i => cases he with
    | str j => exact op_lt_str pins s σ H _ _ v u Q I rx ry ⟨i, j, rfl, rfl, run_pure h R⟩
    | _ => exact h.elim
  | @tup a xs l h1 r1 => cases he with
    | @tup b ys l2 h2 r2 =>
      have h' : run X.w X.K ((match toInts l, toInts l2 with
        | some _, some _ => mof (D.ltL? l l2)
        | _, _ => mbad : M Bool) st) mu H W (fun b _ _ H' => Q (.bl b) H') := h
      cases e1 : toInts l with
      | none => rw [e1] at h'; exact h'.elim
      | some ns => cases e2 : toInts l2 with
        | none => rw [e1, e2] at h'; exact h'.elim
        | some ms =>
          rw [e1, e2] at h'
          dsimp only at h'
          rw [ltL_ints e1 e2] at h'
          have s1 := h1.sq
          have s2 := h2.sq
          rw [r1.ints e1] at s1
          rw [r2.ints e2] at s2
          exact op_ltT (by omega) pins s σ H _ _ v u Q I rx ry ⟨a, b, ns, ms, rfl, rfl, s1, s2, run_pure h' R⟩
    | _ => exact h.elim
  | _ => cases he <;> exact h.elim
/-- the comparisons -/
def pyCm : Cm → CmpOp
  | .eq => .Eq
  | .ne => .NotEq
  | .lt => .Lt
  | .le => .LtE
  | .gt => .Gt
  | .ge => .GtE
  | .inn => .In
  | .nin => .NotIn
theorem pyCm_of {op : CmpOp} {o : Cm} (h : cmOf op = some o) : op = pyCm o := by
  cases op <;> cases h <;> rfl
theorem cmpR (hu : X.A.units + 65 < cLine) (hu2 : X.A.in1.units + 8 < cLine) (op : Cm) : OpR X (compareOp (pyCm op)) (rOpB X (cmpD op)) := by
  cases op
  · exact opD_eq hu
  · exact opD_ne hu
  · exact opD_lt hu
  · exact opD_le
  · exact opD_gt
  · exact opD_ge
  · exact opD_inn hu hu2
  · exact opD_nin hu hu2
/-! ### a[i] -/
theorem atI_of {xs : List V} {l : List D} {mu : Mu} {H : Hp} {w : World} {K : PySem.W.Frag} {k : Int} {j : Nat} {d : D} (r : Dens w K mu H xs l) (e1 : place k l.length = some j) (e2 : l[j]? = some d) : ∃ v, L2.atI xs k = some v ∧ Den w K mu H v d := by
  obtain ⟨v, e3, e4⟩ := r.get e2
  refine ⟨v, ?_, e4⟩
  unfold L2.atI
  rw [show L2.ixN xs.length k = some j by rw [r.length]; exact e1]
  exact e3
/-- by an index, a list or a tuple -/
def getSeq (l : List D) (i : D) (st : Store) : Res D := match i with
  | .int k => (match place k l.length with
    | some j => (match l[j]? with
      | some d => .ok d st
      | none => .bad)
    | none => .bad)
  | _ => .bad
theorem ixD (hu2 : X.A.in1.units + 8 < cLine) : IxR X (rOp X getIx) := by
  intro value slice pins s σ H x y v u Q I rx ry h hs
  obtain ⟨mu, st, d, e, W, hd, he, R, h⟩ := h
  have seqs : ∀ {a : Addr} {xs : List V} {l : List D}, x = .ref a → Dens X.w X.K mu H xs l → run X.w X.K (getSeq l e st) mu H W (QV X.w X.K Q) →
      (∀ k z, y = .int k → L2.atI xs k = some z → Q z H → wpAny (model X.prog X.w) X.A (subscriptTail value slice v u) (EP X pins σ Q) X.xe s) → wpAny (model X.prog X.w) X.A (subscriptTail value slice v u) (EP X pins σ Q) X.xe s := fun {a xs l} ex r h k => by
    cases he with
    | int i =>
      unfold getSeq at h
      dsimp only at h
      cases e1 : place i l.length with
      | none => rw [e1] at h; exact h.elim
      | some j =>
        rw [e1] at h
        dsimp only at h
        cases e2 : l[j]? with
        | none => rw [e2] at h; exact h.elim
        | some d =>
          rw [e2] at h
          obtain ⟨z, e3, e4⟩ := atI_of r e1 e2
          exact k i z rfl e3 (run_ok h R z e4)
    | _ => exact h.elim
  have dicts : ∀ {a : Addr} {ks vs : List D} {kv vv : List V}, x = .ref a → DQ X mu H a ks vs kv vv → run X.w X.K ((if famOk e ks = true then (match keyAt e ks with
      | some j => (match vs[j]? with
        | some d => .ok d st
        | none => .bad)
      | none => .bad) else .bad : Res D)) mu H W (QV X.w X.K Q) → wpAny (model X.prog X.w) X.A (subscriptTail value slice v u) (EP X pins σ Q) X.xe s := fun {a ks vs kv vv} ex q h => by
    subst ex
    obtain rfl : v = Value.ref a := rx
    split at h
    · rename_i c
      cases e1 : keyAt e ks with
      | none => rw [e1] at h; exact h.elim
      | some j =>
        rw [e1] at h
        dsimp only at h
        cases e2 : vs[j]? with
        | none => rw [e2] at h; exact h.elim
        | some d =>
          rw [e2] at h
          obtain ⟨z, e3, e4⟩ := q.vr.get e2
          obtain ⟨o, es, ep, g1, g2, _⟩ := id q.at_
          have ty : s.TypeIs (.ref a) "dict" := ⟨o, dct_obj I g1, g2.1⟩
          exact tail_any ty PySem.F.slot_dict_getitem.lookup (d_getD hu2 I q c he ry e1 e3 fun w' s' I' rw' => ⟨z, H, I', rw', run_ok h R z e4⟩) hs
    · exact h.elim
  cases hd with
  | @tup a xs l h1 r1 => exact seqs rfl r1 h fun k z ey e3 q => ix_tup value slice pins s σ H _ y v u Q I rx ry ⟨a, xs, k, z, rfl, ey, h1.sq, e3, q⟩ hs
  | @lst a xs l h1 n r1 => exact seqs rfl r1 h fun k z ey e3 q => ix_list value slice pins s σ H _ y v u Q I rx ry ⟨a, xs, k, z, rfl, ey, SqL.of h1, e3, q⟩ hs
  | dct h1 n ok nd r q => exact dicts rfl ⟨h1, nd, r, q⟩ h
  | @ref a n e =>
    unfold getIx at h
    dsimp only at h
    cases q : st[n]? with
    | none => rw [q] at h; exact h.elim
    | some o =>
      rw [q] at h
      cases o with
      | lst l =>
        obtain ⟨xs, h1, h2⟩ := R.at e q
        exact seqs rfl h2 h fun k z ey e3 q => ix_list value slice pins s σ H _ y v u Q I rx ry ⟨a, xs, k, z, rfl, ey, SqL.of h1, e3, q⟩ hs
      | dct ks vs =>
        obtain ⟨kv, vv, h1, h2, h3, h4, h5⟩ := R.at e q
        exact dicts rfl ⟨h1, h3, h4, h5⟩ h
  | _ => exact h.elim
/-! ### a[i] = v -/
def rPut (X : Cx) : TSet := fun o i v H Q => ∃ mu st a k x W, Den X.w X.K mu H o a ∧ Den X.w X.K mu H i k ∧ Den X.w X.K mu H v x ∧ RSt X.w X.K mu H st ∧ run X.w X.K (setIx a k x st) mu H W fun _ _ _ H' => Q H'
/-- the dict at a place is written -/
theorem put_st {pins : List (Addr × Obj)} {σ : L2.St} {H : Hp} {s : Shared} {mu : Mu} {st : Store} {n : Nat} {a : Addr} {ks vs : List D} {kv vv : List V} {k x : D} {v : V} {h' : Heap} {t' : Nat} (I : Inv X pins σ H s) (R : RSt X.w X.K mu H st) (e : mu.pl[n]? = some a) (q : DQ X mu H a ks vs kv vv) (fam : famOk k ks = true) (hx : Den X.w X.K mu H v x)
    (sb : Heap.SameBut a s.heap h') (p : DPutD X mu H a ks vs k h' v vv) : ∃ o, Inv X pins σ (upd H a (dHO a o)) { s with heap := h', toks := t' } ∧ Ext mu H mu (upd H a (dHO a o)) ∧ RSt X.w X.K mu (upd H a (dHO a o)) (st.set n (.dct (putK ks vs k x).1 (putK ks vs k x).2)) := by
  obtain ⟨o, kv', ho, hn, dn, mk⟩ := p
  obtain ⟨o0, _, _, g1, _⟩ := id q.at_
  have ext : Ext mu H mu (upd H a (dHO a o)) := Ext.write (List.mem_of_getElem? e) (R.nhid (List.mem_of_getElem? e))
  have m1 := mk _ (upd_same (H := H) (a := a) (o := dHO a o))
  have m2 := dn.ext ext
  refine ⟨o, d_write I (by rw [g1]; exact True.intro) sb ⟨o, ho⟩ (dHO_ok ho), ext, R.write e ?_⟩
  rw [putK_eq]
  exact ⟨kv', _, m1, putKs_fam fam, hn, m2, dens_putV k ks (q.vr.ext ext) (hx.ext ext)⟩
theorem setD (hu2 : X.A.in1.units + 8 < cLine) : PSet X (rPut X) := by
  intro pins s σ H o i v ov iv u Q I ro ri rv h
  obtain ⟨mu, st, a, k, x, W, ho, hi, hv, R, h⟩ := h
  cases ho with
  | @ref p n e =>
    unfold setIx at h
    dsimp only at h
    cases q : st[n]? with
    | none => rw [q] at h; exact h.elim
    | some ob =>
      rw [q] at h
      cases ob with
      | lst l =>
        obtain ⟨xs, h1, h2⟩ := R.at e q
        cases hi with
        | int j =>
          dsimp only at h
          cases e1 : place j l.length with
          | none => rw [e1] at h; exact h.elim
          | some z =>
            rw [e1] at h
            dsimp only at h
            refine set_list pins s σ H _ _ v ov iv u Q I ro ri rv ⟨p, xs, j, z, rfl, rfl, h1, by rw [h2.length]; exact e1, ?_⟩
            have ext : Ext mu H mu (upd H p (.lst (xs.set z v))) := Ext.write (List.mem_of_getElem? e) (R.nhid (List.mem_of_getElem? e))
            exact h mu _ ext (R.write e ⟨_, upd_same, (h2.ext ext).set z (hv.ext ext)⟩)
        | _ => exact h.elim
      | dct ks vs =>
        obtain ⟨kv, vv, h1, h2, h3, h4, h5⟩ := R.at e q
        have dq : DQ X mu H p ks vs kv vv := ⟨h1, h3, h4, h5⟩
        obtain rfl : ov = Value.ref p := ro
        dsimp only at h
        split at h
        · rename_i c
          refine d_putD I dq c.1 hi ri rv c.2 (fun k' kvs g1 g2 g3 g4 => wpAny_setItem_pairs (hsz := g3) g1 g2 g4) (fun b k' xs eu g1 g2 g3 g4 => ?_) fun h' t' sb p => ?_
          · subst eu
            exact wpAny_setItem_heap (hsz := g3) hu2 g1 g2 g4
          · obtain ⟨ob, I', ext, R'⟩ := put_st (t' := t') I R e dq c.1 hv sb p
            exact ⟨_, I', h mu _ ext R'⟩
        · exact h.elim
  | _ => exact h.elim
/-! ### a[lo:hi] -/
def rSlD (X : Cx) (m : Bool) : V → Option Int → Option Int → Hp → VK → Prop := fun x lo hi H Q => ∃ mu st d W, Den X.w X.K mu H x d ∧ RSt X.w X.K mu H st ∧ run X.w X.K (slice m d lo hi st) mu H W (QV X.w X.K Q)
theorem Dens.cut {w : World} {K : PySem.W.Frag} {mu : Mu} {H : Hp} {xs : List V} {l : List D} (r : Dens w K mu H xs l) (lo hi : Option Int) : Dens w K mu H (L2.cutV xs lo hi) (cutD l lo hi) := by
  unfold L2.cutV cutD
  rw [r.length]
  exact (r.drop _).take _
theorem dens_ints {w : World} {K : PySem.W.Frag} {mu : Mu} {H : Hp} : ∀ ns : List Int, Dens w K mu H (ns.map V.int) (ns.map D.int)
  | [] => .nil
  | n :: ns => .cons (.int n) (dens_ints ns)
theorem slD : SlR X (rSlD X m) := by
  intro pins s σ H x v vl vu lo hi sl Q I rx hs pl pu h
  obtain ⟨mu, st, d, W, hd, R, h⟩ := h
  have lists : ∀ {a : Addr} {xs : List V} {l : List D}, x = .ref a → SqL X.K H a xs → Dens X.w X.K mu H xs l → run X.w X.K (newL m (cutD l lo hi) st) mu H W (QV X.w X.K Q) → ∃ T id, typeLookup (.type T) "__getitem__" = pure (some (.builtin id)) ∧ s.TypeIs v T ∧ wpAny (model X.prog X.w) X.A (getItem v (.ref sl)) (EP X pins σ Q) X.xe s := fun {a xs l} ex h1 r h => by
    obtain ⟨_, q⟩ := run_newL h R (r.cut lo hi)
    exact sl_list pins s σ H x v vl vu lo hi sl Q I rx hs pl pu ⟨a, xs, ex, h1, q⟩
  cases hd with
  | @tup a xs l h1 r1 =>
    refine sl_tupA pins s σ H _ v vl vu lo hi sl Q I rx hs pl pu ⟨a, xs, rfl, h1.sq, fun e => ?_, fun _ => new_tup (st' := st) h R (r1.cut lo hi)⟩
    refine run_pure h R _ ?_
    have ec : cutD l lo hi = l := by
      unfold cutD
      rw [← r1.length, e.1, e.2, r1.length]
      simp
    rw [ec]
    exact .tup h1 r1
  | @lst a xs l h1 n r1 =>
    obtain ⟨a', xs', l', ev, h2, r2, h⟩ := run_asL (Den.lst h1 n r1) R (run_bind h)
    exact lists ev (SqL.of h2) r2 h
  | ref e =>
    obtain ⟨a', xs', l', ev, h2, r2, h⟩ := run_asL (Den.ref e) R (run_bind h)
    exact lists ev (SqL.of h2) r2 h
  | @scr a ns h1 => exact lists rfl h1.sq (dens_ints ns) h
  | non => exact (run_bind h : run X.w X.K (asL D.non st) mu H W _).elim
  | bl b => exact (run_bind h : run X.w X.K (asL (D.bl b) st) mu H W _).elim
  | int b => exact (run_bind h : run X.w X.K (asL (D.int b) st) mu H W _).elim
  | str b => exact (run_bind h : run X.w X.K (asL (D.str b) st) mu H W _).elim
  | dct h1 n ok nd r q => exact (run_bind h : run X.w X.K (asL (D.dct _ _) st) mu H W _).elim
end
end PI
set_option Elab.async false
set_option linter.all false
set_option maxRecDepth 100000
set_option maxHeartbeats 4000000
/-! PI, part J: built-in functions and types called, by values. -/
namespace PI
open PySem PySem.Spec PyProof.Rows L2
/-- a call by the interpreter's answer -/
def rC (X : Cx) (g : List D → M D) : List V → Hp → VK → Prop := fun xs H Q => ∃ mu st l W, Dens X.w X.K mu H xs l ∧ RSt X.w X.K mu H st ∧ run X.w X.K (g l st) mu H W (QV X.w X.K Q)
theorem tA_call {X : Cx} {W : WS} {σ : L2.St} {H : Hp} {Q : VK} {xa : Env → M (List D)} {g : List D → M D} (h : tE X.w X.K (fun ρ => do let l ← xa ρ; g l) W σ H Q) : tCB (rC X g) (tA X.w X.K xa W) σ H Q := by
  obtain ⟨ρ, st, mu, E, R, h⟩ := h
  exact ⟨ρ, st, mu, E, R, run_mono (run_bind h) fun a st1 mu1 H1 x R1 q v hv => ⟨mu1, st1, a, W σ, hv, R1, q⟩⟩
section
variable {X : Cx} {m : Bool}
theorem dens1 {w : World} {K : PySem.W.Frag} {mu : Mu} {H : Hp} {xs : List V} {d : D} (h : Dens w K mu H xs [d]) : ∃ v, xs = [v] ∧ Den w K mu H v d := by
  cases h with
  | cons h r => cases r; exact ⟨_, rfl, h⟩
theorem dens2 {w : World} {K : PySem.W.Frag} {mu : Mu} {H : Hp} {xs : List V} {d e : D} (h : Dens w K mu H xs [d, e]) : ∃ v u, xs = [v, u] ∧ Den w K mu H v d ∧ Den w K mu H u e := by
  cases h with
  | cons h r => cases r with
    | cons h2 r => cases r; exact ⟨_, _, rfl, h, h2⟩
/-- a call of one thing -/
theorem call1 {f : Value} {g : List D → M D} (hb : ∀ l st, l.length ≠ 1 → g l st = .bad) (k : ∀ (pins : List (Addr × Obj)) (s : Shared) (σ : L2.St) (H : Hp) (x : V) (u : Value) (Q : VK) mu st d W, Inv X pins σ H s → RelV x u → Den X.w X.K mu H x d → RSt X.w X.K mu H st → run X.w X.K (g [d] st) mu H W (QV X.w X.K Q) → wpAny (model X.prog X.w) X.A (call f [u]) (EP X pins σ Q) X.xe s) : CallR X f (rC X g) := by
  intro pins s σ H xs us Q I r h
  obtain ⟨mu, st, l, W, hd, R, h⟩ := h
  match l, hd, h with
  | [], _, h => rw [hb [] st (by decide)] at h; exact h.elim
  | [d], hd0, h =>
    obtain ⟨v, rfl, hd1⟩ := dens1 hd0
    obtain ⟨u, rfl, rx⟩ := vals1 r
    exact k pins s σ H v u Q mu st d W I rx hd1 R h
  | a :: b :: l, _, h => rw [hb _ st (by simp)] at h; exact h.elim
/-- the place of the store -/
theorem at_ref {mu : Mu} {H : Hp} {st : Store} {a : Addr} {n : Nat} (e : mu.pl[n]? = some a) (R : RSt X.w X.K mu H st) : (∃ l xs, st[n]? = some (.lst l) ∧ H a = some (.lst xs) ∧ Dens X.w X.K mu H xs l) ∨ (∃ ks vs kv vv, st[n]? = some (.dct ks vs) ∧ okKeys ks = true ∧ DQ X mu H a ks vs kv vv) := by
  have hl : n < st.length := by rw [← R.len]; exact (List.getElem?_eq_some_iff.mp e).1
  cases q : st[n] with
  | lst l =>
    have q' : st[n]? = some (.lst l) := by rw [List.getElem?_eq_getElem hl, q]
    obtain ⟨xs, h1, h2⟩ := R.at e q'
    exact .inl ⟨l, xs, q', h1, h2⟩
  | dct ks vs =>
    have q' : st[n]? = some (.dct ks vs) := by rw [List.getElem?_eq_getElem hl, q]
    obtain ⟨kv, vv, h1, h2, h3, h4, h5⟩ := R.at e q'
    exact .inr ⟨ks, vs, kv, vv, q', h2, h1, h3, h4, h5⟩
theorem m2_len {β : Type} {κ : Type} [DecidableEq κ] {f : D → κ} {ks : List D} {us : List β} (h : us.length = ks.length) : (m2 f ks us).length = ks.length := by
  rw [← List.length_map (f := (·.1)), m2_fst f h, List.length_map]
theorem callD_len : CallR X (.builtin "len") (rC X (bi m .len)) := by
  refine call1 (fun l st hl => ?_) fun pins s σ H x u Q mu st d W I rx hd R h => ?_
  · match l, hl with
    | [], _ => rfl
    | [d], hl => exact absurd rfl hl
    | a :: b :: l, _ => rfl
  have dicts : ∀ {a : Addr} {ks vs : List D} {kv vv : List V}, x = .ref a → DQ X mu H a ks vs kv vv → run X.w X.K ((if ks.all D.isLeaf = true then .ok (.int ks.length) st else .bad : Res D)) mu H W (QV X.w X.K Q) → wpAny (model X.prog X.w) X.A (call (.builtin "len") [u]) (EP X pins σ Q) X.xe s := fun {a ks vs kv vv} ex q h => by
    subst ex
    obtain rfl : u = Value.ref a := rx
    split at h
    · rename_i c
      have hs : (a == sysModules) = false := let ⟨_, _, _, _, _, _, z, _⟩ := q.at_; z
      have hz : ks.length ≤ sizeLine := by
        obtain ⟨_, _, _, _, _, _, _, z, z2, _⟩ := q.at_
        have := z2.length
        rw [← q.kr.length, this]
        simpa using z
      obtain ⟨us, r, hl, dd⟩ := dct_leaf I q.at_ q.kr c q.nd
      have hn := line63
      have e := m2_len (f := lk) hl
      refine call_len_dict hs dd (by rw [e]; omega) ⟨.int ks.length, H, I.tok _, ⟨_, by rw [e]⟩, run_ok h R _ (.int _)⟩
    · exact h.elim
  cases hd with
  | @tup a xs l h1 r1 => exact call_len_seq pins s σ H _ _ Q I (.cons rx .nil) ⟨a, xs, rfl, .inr h1.sq, by rw [r1.length]; exact run_ok h R _ (.int _)⟩
  | @lst a xs l h1 n r1 => exact call_len_seq pins s σ H _ _ Q I (.cons rx .nil) ⟨a, xs, rfl, .inl (SqL.of h1), by rw [r1.length]; exact run_ok h R _ (.int _)⟩
  | str z =>
    have h' : run X.w X.K ((if z.length ≤ sizeLine then .ok (.int z.length) st else .bad : Res D)) mu H W (QV X.w X.K Q) := h
    split at h'
    · rename_i c
      exact call_len_str pins s σ H _ _ Q I (.cons rx .nil) ⟨z, rfl, c, run_ok h' R _ (.int _)⟩
    · exact h'.elim
  | dct h1 n ok nd r q => exact dicts rfl ⟨h1, nd, r, q⟩ h
  | @ref a n e =>
    unfold bi at h
    dsimp only at h
    rcases at_ref e R with ⟨l, xs, q, h1, h2⟩ | ⟨ks, vs, kv, vv, q, ok, dq⟩
    · rw [q] at h
      exact call_len_seq pins s σ H _ _ Q I (.cons rx .nil) ⟨a, xs, rfl, .inl (SqL.of h1), by rw [h2.length]; exact run_ok h R _ (.int _)⟩
    · rw [q] at h
      exact dicts rfl dq h
  | _ => exact h.elim
theorem callD_abs : CallR X (.builtin "abs") (rC X (bi m .abs)) := by
  refine call1 (fun l st hl => ?_) fun pins s σ H x u Q mu st d W I rx hd R h => ?_
  · match l, hl with
    | [], _ => rfl
    | [d], hl => exact absurd rfl hl
    | a :: b :: l, _ => cases a <;> rfl
  cases hd with
  | int i => exact call_abs pins s σ H _ _ Q I (.cons rx .nil) ⟨i, rfl, run_pure h R _ (.int _)⟩
  | _ => exact h.elim
theorem callD_int : CallR X (.type "int") (rC X (bi m .int)) := by
  refine call1 (fun l st hl => ?_) fun pins s σ H x u Q mu st d W I rx hd R h => ?_
  · match l, hl with
    | [], _ => rfl
    | [d], hl => exact absurd rfl hl
    | a :: b :: l, _ => cases a <;> rfl
  cases hd with
  | int i => exact call_int1 pins s σ H _ _ Q I (.cons rx .nil) (.inl ⟨i, rfl, run_pure h R _ (.int _)⟩)
  | bl b => exact call_int1 pins s σ H _ _ Q I (.cons rx .nil) (.inr ⟨b, rfl, by rw [b2i_if]; exact run_pure h R _ (.int _)⟩)
  | _ => exact h.elim
/-- a list of numbers -/
theorem sq_ints {mu : Mu} {H : Hp} {xs : List V} {l : List D} {ns : List Int} {a : Addr} (h : H a = some (.lst xs)) (r : Dens X.w X.K mu H xs l) (e : toInts l = some ns) : SqL X.K H a (ns.map V.int) := by
  have := SqL.of (K := X.K) h
  rw [r.ints e] at this
  exact this
theorem sq_bools {mu : Mu} {H : Hp} {xs : List V} {l : List D} {ns : List Bool} {a : Addr} (h : H a = some (.lst xs)) (r : Dens X.w X.K mu H xs l) (e : toBools l = some ns) : SqL X.K H a (ns.map V.bl) := by
  have := SqL.of (K := X.K) h
  rw [r.bools e] at this
  exact this
theorem callD_sum (hc : X.calm = true) : CallR X (.builtin "sum") (rC X (bi m .sum)) := by
  refine call1 (fun l st hl => ?_) fun pins s σ H x u Q mu st d W I rx hd R h => ?_
  · match l, hl with
    | [], _ => rfl
    | [d], hl => exact absurd rfl hl
    | a :: b :: l, _ => cases a <;> rfl
  obtain ⟨a, xs, l, rfl, h1, h2, h⟩ := run_asL hd R (run_bind h)
  obtain ⟨ns, e, h⟩ := run_mof (run_bind h) R
  exact cr_sum hc pins s σ H _ _ Q I (.cons rx .nil) ⟨a, ns, rfl, sq_ints h1 h2 e, run_pure h R _ (.int _)⟩
theorem callD_all (hc : X.calm = true) : CallR X (.builtin "all") (rC X (bi m .all)) := by
  refine call1 (fun l st hl => ?_) fun pins s σ H x u Q mu st d W I rx hd R h => ?_
  · match l, hl with
    | [], _ => rfl
    | [d], hl => exact absurd rfl hl
    | a :: b :: l, _ => cases a <;> rfl
  obtain ⟨a, xs, l, rfl, h1, h2, h⟩ := run_asL hd R (run_bind h)
  obtain ⟨ns, e, h⟩ := run_mof (run_bind h) R
  exact cr_all hc pins s σ H _ _ Q I (.cons rx .nil) ⟨a, ns, rfl, sq_bools h1 h2 e, run_pure h R _ (.bl _)⟩
theorem callD_any (hc : X.calm = true) : CallR X (.builtin "any") (rC X (bi m .any)) := by
  refine call1 (fun l st hl => ?_) fun pins s σ H x u Q mu st d W I rx hd R h => ?_
  · match l, hl with
    | [], _ => rfl
    | [d], hl => exact absurd rfl hl
    | a :: b :: l, _ => cases a <;> rfl
  obtain ⟨a, xs, l, rfl, h1, h2, h⟩ := run_asL hd R (run_bind h)
  obtain ⟨ns, e, h⟩ := run_mof (run_bind h) R
  exact cr_any hc pins s σ H _ _ Q I (.cons rx .nil) ⟨a, ns, rfl, sq_bools h1 h2 e, run_pure h R _ (.bl _)⟩
theorem fold_min : ∀ (r : List Int) (a m : Int), (m = a ∨ m ∈ r) → m ≤ a → (∀ y ∈ r, m ≤ y) → r.foldl (fun a b => if b < a then b else a) a = m
  | [], a, m, h1, _, _ => by
    rcases h1 with h1 | h1
    · exact h1.symm
    · exact absurd h1 (by simp)
  | b :: r, a, m, h1, h2, h3 => by
    have hb := h3 b List.mem_cons_self
    rw [List.foldl_cons]
    by_cases c : b < a
    · rw [if_pos c]
      refine fold_min r b m ?_ hb fun y hy => h3 y (List.mem_cons_of_mem _ hy)
      rcases h1 with h1 | h1
      · omega
      · rcases List.mem_cons.mp h1 with h1 | h1
        · exact .inl h1
        · exact .inr h1
    · rw [if_neg c]
      refine fold_min r a m ?_ h2 fun y hy => h3 y (List.mem_cons_of_mem _ hy)
      rcases h1 with h1 | h1
      · exact .inl h1
      · rcases List.mem_cons.mp h1 with h1 | h1
        · exact .inl (by omega)
        · exact .inr h1
theorem fold_max : ∀ (r : List Int) (a m : Int), (m = a ∨ m ∈ r) → a ≤ m → (∀ y ∈ r, y ≤ m) → r.foldl (fun a b => if b > a then b else a) a = m
  | [], a, m, h1, _, _ => by
    rcases h1 with h1 | h1
    · exact h1.symm
    · exact absurd h1 (by simp)
  | b :: r, a, m, h1, h2, h3 => by
    have hb := h3 b List.mem_cons_self
    rw [List.foldl_cons]
    by_cases c : b > a
    · rw [if_pos c]
      refine fold_max r b m ?_ hb fun y hy => h3 y (List.mem_cons_of_mem _ hy)
      rcases h1 with h1 | h1
      · omega
      · rcases List.mem_cons.mp h1 with h1 | h1
        · exact .inl h1
        · exact .inr h1
    · rw [if_neg c]
      refine fold_max r a m ?_ h2 fun y hy => h3 y (List.mem_cons_of_mem _ hy)
      rcases h1 with h1 | h1
      · exact .inl h1
      · rcases List.mem_cons.mp h1 with h1 | h1
        · exact .inl (by omega)
        · exact .inr h1
theorem minI_is {ns : List Int} {i m : Int} (h : minI ns = some i) (hm : m ∈ ns) (hl : ∀ y ∈ ns, m ≤ y) : m = i := by
  cases ns with
  | nil => cases h
  | cons a r =>
    have e : r.foldl (fun a b => if b < a then b else a) a = i := Option.some.inj h
    rw [← e]
    exact (fold_min r a m (List.mem_cons.mp hm) (hl a List.mem_cons_self) fun y hy => hl y (List.mem_cons_of_mem _ hy)).symm
theorem maxI_is {ns : List Int} {i m : Int} (h : maxI ns = some i) (hm : m ∈ ns) (hl : ∀ y ∈ ns, y ≤ m) : m = i := by
  cases ns with
  | nil => cases h
  | cons a r =>
    have e : r.foldl (fun a b => if b > a then b else a) a = i := Option.some.inj h
    rw [← e]
    exact (fold_max r a m (List.mem_cons.mp hm) (hl a List.mem_cons_self) fun y hy => hl y (List.mem_cons_of_mem _ hy)).symm
theorem minI_pos {ns : List Int} {i : Int} (h : minI ns = some i) : 0 < ns.length := by
  cases ns with
  | nil => cases h
  | cons a r => exact Nat.succ_pos _
theorem maxI_pos {ns : List Int} {i : Int} (h : maxI ns = some i) : 0 < ns.length := by
  cases ns with
  | nil => cases h
  | cons a r => exact Nat.succ_pos _
theorem callD_min (hc : X.calm = true) : CallR X (.builtin "min") (rC X (bi m .min)) := by
  intro pins s σ H xs us Q I r h
  obtain ⟨mu, st, l, W, hd, R, h⟩ := h
  match l, hd, h with
  | [], _, h => exact h.elim
  | [d], hd0, h =>
    obtain ⟨v, rfl, hd1⟩ := dens1 hd0
    have h' : run X.w X.K ((do let l ← asL d; let ns ← mof (toInts l); let i ← mof (minI ns); M.pure (.int i) : M D) st) mu H W (QV X.w X.K Q) := by cases d <;> exact h
    obtain ⟨a, xs, l, rfl, h1, h2, h⟩ := run_asL hd1 R (run_bind h')
    obtain ⟨ns, e, h⟩ := run_mof (run_bind h) R
    obtain ⟨i, e2, h⟩ := run_mof (run_bind h) R
    exact cr_min hc pins s σ H _ _ Q I r ⟨a, ns, rfl, sq_ints h1 h2 e, minI_pos e2, fun k hk hy => by rw [minI_is e2 hk hy]; exact run_pure h R _ (.int _)⟩
  | [a, b], hd0, h =>
    obtain ⟨v, u, rfl, hd1, he⟩ := dens2 hd0
    cases hd1 with
    | int i => cases he with
      | int j => exact call_min2 hc pins s σ H _ _ Q I r ⟨i, j, rfl, run_pure h R _ (.int _)⟩
      | _ => exact h.elim
    | _ => cases he <;> exact h.elim
  | a :: b :: c :: l, _, h => cases a <;> cases b <;> exact h.elim
theorem callD_max (hc : X.calm = true) : CallR X (.builtin "max") (rC X (bi m .max)) := by
  intro pins s σ H xs us Q I r h
  obtain ⟨mu, st, l, W, hd, R, h⟩ := h
  match l, hd, h with
  | [], _, h => exact h.elim
  | [d], hd0, h =>
    obtain ⟨v, rfl, hd1⟩ := dens1 hd0
    have h' : run X.w X.K ((do let l ← asL d; let ns ← mof (toInts l); let i ← mof (maxI ns); M.pure (.int i) : M D) st) mu H W (QV X.w X.K Q) := by cases d <;> exact h
    obtain ⟨a, xs, l, rfl, h1, h2, h⟩ := run_asL hd1 R (run_bind h')
    obtain ⟨ns, e, h⟩ := run_mof (run_bind h) R
    obtain ⟨i, e2, h⟩ := run_mof (run_bind h) R
    exact cr_max hc pins s σ H _ _ Q I r ⟨a, ns, rfl, sq_ints h1 h2 e, maxI_pos e2, fun k hk hy => by rw [maxI_is e2 hk hy]; exact run_pure h R _ (.int _)⟩
  | [a, b], hd0, h =>
    obtain ⟨v, u, rfl, hd1, he⟩ := dens2 hd0
    cases hd1 with
    | int i => cases he with
      | int j => exact call_max2 hc pins s σ H _ _ Q I r ⟨i, j, rfl, run_pure h R _ (.int _)⟩
      | _ => exact h.elim
    | _ => cases he <;> exact h.elim
  | a :: b :: c :: l, _, h => cases a <;> cases b <;> exact h.elim
theorem run_newT {mu : Mu} {H : Hp} {st : Store} {W : WD} {l : List D} {xs : List V} {Q : VK} (h : run X.w X.K (newT l st) mu H W (QV X.w X.K Q)) (R : RSt X.w X.K mu H st) (r : Dens X.w X.K mu H xs l) : l.length ≤ sizeLine ∧ (∀ p, H p = none → Q (.ref p) (upd H p (.tup xs))) ∧ ∀ a, TupAt X.K mu H a xs → Q (.ref a) H := by
  unfold newT at h
  split at h
  · rename_i hz
    exact ⟨hz, new_tup (st' := st) h R r, fun a ha => run_ok h R _ (.tup ha r)⟩
  · exact h.elim
theorem callD_tuple : CallR X (.type "tuple") (rC X (bi m .tuple)) := by
  refine call1 (fun l st hl => ?_) fun pins s σ H x u Q mu st d W I rx hd R h => ?_
  · match l, hl with
    | [], _ => rfl
    | [d], hl => exact absurd rfl hl
    | a :: b :: l, _ => cases a <;> rfl
  cases hd with
  | @tup a xs l h1 r1 =>
    have h' : run X.w X.K (newT l st) mu H W (QV X.w X.K Q) := h
    exact call_tuple_of pins s σ H _ _ Q I (.cons rx .nil) ⟨a, xs, rfl, .inr ⟨h1.sq, (run_newT h' R r1).2.2 a h1⟩⟩
  | @lst a xs l h1 n r1 =>
    have h' : run X.w X.K (newT l st) mu H W (QV X.w X.K Q) := h
    exact call_tuple_of pins s σ H _ _ Q I (.cons rx .nil) ⟨a, xs, rfl, .inl ⟨SqL.of h1, (run_newT h' R r1).2.1⟩⟩
  | @ref a n e =>
    obtain ⟨a', xs, l, ev, h1, h2, h⟩ := run_asL (Den.ref e) R (by
      rcases at_ref e R with ⟨l, xs, q, h1, h2⟩ | ⟨ks, vs, kv, vv, q, ok, dq⟩
      · have e1 : asS (D.ref n) st = asL (D.ref n) st := rfl
        have h' := run_bind h
        rw [e1] at h'
        exact h'
      · have e1 : asS (D.ref n) st = .bad := by unfold asS; dsimp only; rw [q]
        have h' := run_bind h
        rw [e1] at h'
        exact h'.elim)
    exact call_tuple_of pins s σ H _ _ Q I (.cons rx .nil) ⟨a', xs, by rw [ev], .inl ⟨SqL.of h1, (run_newT h R h2).2.1⟩⟩
  | _ => exact h.elim
end
end PI
set_option Elab.async false
set_option linter.all false
set_option maxRecDepth 100000
set_option maxHeartbeats 4000000
/-! PI, part K: list(x), sorted(x). -/
namespace PI
open PySem PySem.Spec PyProof.Rows L2
section
variable {prog : Program} {w : World} {d : Addr}
/-- a dict as a source of its keys, whatever they are -/
theorem src_raw (lo : (d == sysModules) = false) (es : Array DictEntry) (ep : Nat) : PySem.W.KdlSrc prog w "dict" d d es.size (fun i v => ∃ hi : i < es.size, v = es[i].key) (fun h => h.DictRaw d es ep) :=
  have lt : ∀ {h : Heap}, h.DictRaw d es ep → d < h.objs.size := fun x => let ⟨_, ho, _⟩ := x; Heap.lt_size ho
  { type := fun _ x => x.typeIs
    there := fun _ x => ⟨lt x, lt x⟩
    keep := fun _ _ x hk => x.at fun o e => hk d (.inl rfl) o e
    notList := by decide
    notTuple := by decide
    hint := fun _ _ _ _ x hq => PySem.W.kdl_hint_dict x.typeIs hq
    iter := fun _ _ hh x => ⟨_, _, fun _ _ hq => wpAny_pyIter_dict_raw lo x hq, Walks.rawKeys hh _ d (Nat.ne_of_lt (lt x)) es ep, ⟨_, Heap.get?_push_size _ rfl, rfl, rfl⟩, x.at fun o e => Heap.get?_push_of_some _ e⟩ }
theorem items_keys {es acc : Array DictEntry} {vs : Array Value} (h : ItemsOf (fun i v => ∃ hi : i < es.size, v = es[i].key) vs es.size) : vs.toList = es.toList.map (·.key) := by
  refine List.ext_getElem? fun i => ?_
  rw [List.getElem?_map, Array.getElem?_toList, Array.getElem?_toList]
  by_cases hi : i < es.size
  · have hv : i < vs.size := by rw [h.1]; exact hi
    obtain ⟨_, e⟩ := h.2 i vs[i] (Array.getElem?_eq_getElem hv)
    rw [Array.getElem?_eq_getElem hv, Array.getElem?_eq_getElem hi, e]
    rfl
  · rw [Array.getElem?_eq_none (by rw [h.1]; omega), Array.getElem?_eq_none (by omega)]
    rfl
end
section
variable {X : Cx} {m : Bool}
/-- the dict's own object, its keys -/
theorem dct_raw {pins : List (Addr × Obj)} {σ : L2.St} {H : Hp} {s : Shared} {mu : Mu} {a : Addr} {ks vs : List D} {kv vv : List V} (I : Inv X pins σ H s) (q : DQ X mu H a ks vs kv vv) : ∃ (es : Array DictEntry) (ep : Nat), s.heap.DictRaw a es ep ∧ (a == sysModules) = false ∧ es.size ≤ sizeLine ∧ es.size = ks.length ∧ Vals kv (es.toList.map (·.key)) := by
  obtain ⟨o, es, ep, h1, h2, h3, h4, h5, h6, h7, h8⟩ := q.at_
  refine ⟨es, ep, ⟨o, dct_obj I h1, h2, h3⟩, h4, h5, ?_, h6⟩
  have := h6.length
  rw [q.kr.length] at this
  simpa using this.symm
theorem callD_list (hc : X.calm = true) : CallR X (.type "list") (rC X (bi m .list)) := by
  refine call1 (fun l st hl => ?_) fun pins s σ H x u Q mu st d W I rx hd R h => ?_
  · match l, hl with
    | [], _ => rfl
    | [d], hl => exact absurd rfl hl
    | a :: b :: l, _ => cases a <;> rfl
  have lists : ∀ {a : Addr} {xs : List V} {l : List D}, x = .ref a → (SqL X.K H a xs ∨ SqT X.K H a xs) → Dens X.w X.K mu H xs l → run X.w X.K (newL m l st) mu H W (QV X.w X.K Q) → wpAny (model X.prog X.w) X.A (call (.type "list") [u]) (EP X pins σ Q) X.xe s := fun {a xs l} ex h1 r h => by
    obtain ⟨_, q⟩ := run_newL h R r
    exact call_list_of pins s σ H _ _ Q I (.cons rx .nil) ⟨a, xs, by rw [ex], h1, q⟩
  have dicts : ∀ {a : Addr} {ks vs : List D} {kv vv : List V}, x = .ref a → DQ X mu H a ks vs kv vv → run X.w X.K (newL m ks st) mu H W (QV X.w X.K Q) → wpAny (model X.prog X.w) X.A (call (.type "list") [u]) (EP X pins σ Q) X.xe s := fun {a ks vs kv vv} ex q h => by
    subst ex
    obtain rfl : u = Value.ref a := rx
    obtain ⟨es, ep, hr, lo, hz, hl, hk⟩ := dct_raw I q
    obtain ⟨hz2, qq⟩ := run_newL h R q.kr
    refine PySem.W.kdl_call (src_raw lo es ep) (I.ok.hd hc) hr hz fun h' tk acc c keep ho hi => ?_
    have e := items_keys (acc := es) hi
    refine ⟨.ref s.heap.objs.size, upd H s.heap.objs.size (.lst kv), I.laid (t' := tk) keep (Nat.le_refl _) ?_, rfl, qq _ (I.hok.fresh (Nat.le_refl _))⟩
    exact ⟨by rw [q.kr.length]; exact hz2, acc.toList, c, by rw [e]; exact hk, by rw [Array.toArray_toList]; exact ho⟩
  cases hd with
  | @tup a xs l h1 r1 => exact lists rfl (.inr h1.sq) r1 h
  | @lst a xs l h1 n r1 => exact lists rfl (.inl (SqL.of h1)) r1 h
  | dct h1 n ok nd r q => exact dicts rfl ⟨h1, nd, r, q⟩ h
  | @ref a n e =>
    have h' := run_bind h
    rcases at_ref e R with ⟨l, xs, q, h1, h2⟩ | ⟨ks, vs, kv, vv, q, ok, dq⟩
    · have e1 : asW (D.ref n) st = .ok l st := by unfold asW; dsimp only; rw [q]
      rw [e1] at h'
      exact lists rfl (.inl (SqL.of h1)) h2 (run_ok h' R)
    · have e1 : asW (D.ref n) st = .ok ks st := by unfold asW; dsimp only; rw [q]
      rw [e1] at h'
      exact dicts rfl dq (run_ok h' R)
  | _ => exact (run_bind h).elim
/-! ### sorted -/
/-- a value that stands for d -/
def ValD (X : Cx) (mu : Mu) (H : Hp) (v : Value) (d : D) : Prop := ∃ x, RelV x v ∧ Den X.w X.K mu H x d
theorem each_of {mu : Mu} {H : Hp} : ∀ {xs : List V} {l : List D} {us : List Value}, Dens X.w X.K mu H xs l → Vals xs us → PySem.W.EachIs (ValD X mu H) us l
  | _, _, _, .nil, .nil => .nil
  | _, _, _, .cons h r, .cons g t => .cons ⟨_, g, h⟩ (each_of r t)
theorem of_each {mu : Mu} {H : Hp} : ∀ {l : List D} {us : List Value}, PySem.W.EachIs (ValD X mu H) us l → ∃ xs, Dens X.w X.K mu H xs l ∧ Vals xs us
  | _, _, .nil => ⟨[], .nil, .nil⟩
  | _, _, .cons h r => by
    obtain ⟨x, h1, h2⟩ := h
    obtain ⟨xs, r1, r2⟩ := of_each r
    exact ⟨x :: xs, .cons h2 r1, .cons h1 r2⟩
theorem each_reads {pins : List (Addr × Obj)} {σ : L2.St} {H : Hp} {s : Shared} {mu : Mu} (I : Inv X pins σ H s) {h' : Heap} (keep : ∀ b o, s.heap.get? b = some o → h'.get? b = some o) : ∀ {xs : List V} {l : List D} {us : List Value}, Dens X.w X.K mu H xs l → Vals xs us → D.plainL l = true → PySem.W.EachIs (fun v d => ∃ as, Reads h' v d as) us (l.map py)
  | _, _, _, .nil, .nil, _ => .nil
  | _, _, _, .cons (d := d) (l := l) h r, .cons g t, f => by
    obtain ⟨f1, f2⟩ := Bool.and_eq_true_iff.mp (show (d.fitN 49 && D.fitL l 49) = true from f)
    obtain ⟨as, r1⟩ := Dp.reads (I.kept (t' := s.toks) keep) (py d) _ _ (fit_py h f1) g
    exact .cons ⟨as, r1⟩ (each_reads I keep r t f2)
theorem sortable_of {l : List D} (h : (l.all D.sortable || l.all D.fullT) = true) : PySem.W.Sortable (l.map py) := by
  rcases Bool.or_eq_true_iff.mp h with h | h
  · refine .inr fun d hd => ?_
    obtain ⟨e, he, rfl⟩ := List.mem_map.mp hd
    have := List.all_eq_true.mp h e he
    cases e with
    | int _ => exact ⟨fun z => (by cases z), fun xs z => (by cases z)⟩
    | bl _ => exact ⟨fun z => (by cases z), fun xs z => (by cases z)⟩
    | str _ => exact ⟨fun z => (by cases z), fun xs z => (by cases z)⟩
    | lst _ => exact ⟨fun z => (by cases z), fun xs z => (by cases z)⟩
    | _ => exact absurd this (by simp [D.sortable])
  · refine .inl fun d hd => ?_
    obtain ⟨e, he, rfl⟩ := List.mem_map.mp hd
    have := List.all_eq_true.mp h e he
    cases e with
    | tup l => cases l with
      | nil => exact absurd this (by decide)
      | cons x r => exact ⟨py x, pys r, rfl⟩
    | _ => exact absurd this (by simp [D.fullT])
theorem alike_of {l : List D} (h : (l.all fun a => l.all fun b => PySem.W.alike (py a) (py b)) = true) : PySem.W.AllAlike (l.map py) := by
  intro d hd d' hd'
  obtain ⟨e, he, rfl⟩ := List.mem_map.mp hd
  obtain ⟨e', he', rfl⟩ := List.mem_map.mp hd'
  exact List.all_eq_true.mp (List.all_eq_true.mp h e he) e' he'
theorem fitL_mem {l : List D} {n : Nat} (h : D.fitL l n = true) : ∀ d ∈ l, d.fitN n = true := by
  induction l with
  | nil => intro d hd; cases hd
  | cons x r ih =>
    obtain ⟨f1, f2⟩ := Bool.and_eq_true_iff.mp (show (x.fitN n && D.fitL r n) = true from h)
    intro d hd
    rcases List.mem_cons.mp hd with rfl | hd
    · exact f1
    · exact ih f2 d hd
/-- sorted(r), what r gives collected -/
theorem sorted_col (hu : X.A.units + 65 < cLine) {pins : List (Addr × Obj)} {σ : L2.St} {H : Hp} {s : Shared} {mu : Mu} {st : Store} {W : WD} {Q : VK} {r : Value} {xs : List V} {l : List D} (I : Inv X pins σ H s) (R : RSt X.w X.K mu H st) (hd : Dens X.w X.K mu H xs l) (ok : sortOk l = true)
    (h : run X.w X.K (newL m (sortD l) st) mu H W (QV X.w X.K Q))
    (col : ∀ (Q' : List Value → Shared → Prop) (E' : Value → Shared → Prop), (∀ h' tk us, (∀ b o, s.heap.get? b = some o → h'.get? b = some o) → Vals xs us → Q' us { s with heap := h', toks := tk }) → wpAny (model X.prog X.w) X.A.in1 (collect r) Q' E' s) :
    wpAny (model X.prog X.w) X.A (call (.builtin "sorted") [r]) (EP X pins σ Q) X.xe s := by
  obtain ⟨ok1, ok2⟩ := Bool.and_eq_true_iff.mp ok
  obtain ⟨ok0, ok1⟩ := Bool.and_eq_true_iff.mp ok1
  have hlen : (sortD l).length = l.length := by unfold sortD; rw [List.length_mergeSort]
  have hz : (sortD l).length ≤ sizeLine := by
    unfold newL at h
    split at h
    · assumption
    · exact h.elim
  rw [hlen] at hz
  refine Calls.call_function_entry PyProof.Rows.kind_sorted PyProof.Rows.plain_sorted PyProof.Rows.entry_sorted (PyProof.Rows.args_sorted1 _) ?_
  unfold Builtin.«sorted»
  refine wpAny_bind (m := checkCount "sorted" 1 1 _) (wpAny_pure ?_)
  refine wpAny_bind (col _ _ fun h1 tk us keep r1 => ?_)
  have ul : us.length = l.length := by rw [← r1.length, hd.length]
  refine wpAny_bind (wpAny_newList ?_ (by rw [ul]; exact hz))
  have hoL : (h1.push (seqObj "list" us.toArray 0)).get? h1.objs.size = some (seqObj "list" us.toArray 0) := Heap.get?_push_size _ rfl
  have keep2 : ∀ b o, s.heap.get? b = some o → (PySem.W.sortingHeap (h1.push (seqObj "list" us.toArray 0)) h1.objs.size us).get? b = some o := fun b o e => by
    have e2 := keep b o e
    exact PySem.W.sortingHeap_old (Nat.ne_of_lt (Heap.lt_size e2)) (Heap.get?_push_of_some _ e2)
  have er := each_reads I keep2 hd r1 ok0
  show wpAny _ _ _ _ _ { s with heap := h1.push (seqObj "list" us.toArray 0), toks := tk }
  refine wpAny_bind (wpAny_holding (wpAny_call_entry PyProof.Rows.slot_list_sort ⟨_, hoL, rfl⟩ PyProof.Rows.entry_list_sort
    (PySem.W.list_sort_vals (s := { s with heap := h1.push (seqObj "list" us.toArray 0), toks := tk }) (κ := PySem.W.dataKind (PySem.W.sortingHeap (h1.push (seqObj "list" us.toArray 0)) h1.objs.size us) (l.map py)) hoL
      (PySem.W.SortsAt.data er (alike_of ok1) (sortable_of ok2) fun d hd => ?_) (by rw [ul]; exact hz) ⟨_, rfl, ?_⟩) (PyProof.Rows.args_list_sort _)))
  · obtain ⟨e, he, rfl⟩ := List.mem_map.mp hd
    have := (py_can e 49 (fitL_mem ok0 e he)).2
    have hA : X.A.in1.in1.units ≤ X.A.units + 2 := by
      simp only [Around.in1]
      omega
    omega
  generalize hout : PySem.W.sortVals _ false us us = out
  have ko : PySem.W.KeyedOut false (l.map py) us out := ⟨_, us, alike_of ok1, hout.symm, er⟩
  obtain ⟨ys, d2, r2⟩ := of_each (PySem.W.keyedOut_each py ko (each_of hd r1))
  obtain ⟨_, q⟩ := run_newL h R d2
  obtain ⟨c, hc⟩ := PyProof.Rows.sortedHeap_at (vs := us) (out := out.toArray) hoL
  have I1 : Inv X pins σ H { s with heap := h1, toks := tk } := I.kept keep
  refine wpAny_pure ⟨_, rfl, .ref h1.objs.size, upd H h1.objs.size (.lst ys), I1.laid (t' := tk) (fun b u e => ?_) (Nat.le_refl _) ?_, rfl, q _ (I1.hok.fresh (Nat.le_refl _))⟩
  · have hb : b < h1.objs.size := Heap.lt_size e
    rw [PyProof.Rows.sortedHeap_old (Nat.ne_of_lt hb) (by rw [size_push']; exact Nat.lt_succ_of_lt hb)]
    exact Heap.get?_push_of_some _ e
  · exact ⟨by rw [d2.length, List.length_mergeSort]; exact hz, out, c, r2, hc⟩
theorem callD_sorted (hc : X.calm = true) (hu : X.A.units + 65 < cLine) : CallR X (.builtin "sorted") (rC X (bi m .sorted)) := by
  refine call1 (fun l st hl => ?_) fun pins s σ H x u Q mu st d W I rx hd R h => ?_
  · match l, hl with
    | [], _ => rfl
    | [d], hl => exact absurd rfl hl
    | a :: b :: l, _ => cases a <;> rfl
  have h' := run_bind h
  have fin : ∀ {l : List D} {xs : List V}, Dens X.w X.K mu H xs l → run X.w X.K ((if sortOk l = true then newL m (sortD l) else mbad : M D) st) mu H W (QV X.w X.K Q) →
      (∀ (Q' : List Value → Shared → Prop) (E' : Value → Shared → Prop), xs.length ≤ sizeLine → (∀ h' tk us, (∀ b o, s.heap.get? b = some o → h'.get? b = some o) → Vals xs us → Q' us { s with heap := h', toks := tk }) → wpAny (model X.prog X.w) X.A.in1 (collect u) Q' E' s) →
      wpAny (model X.prog X.w) X.A (call (.builtin "sorted") [u]) (EP X pins σ Q) X.xe s := fun {l xs} r h col => by
    rcases if_cases (c := sortOk l = true) (a := newL m (sortD l)) (b := (mbad : M D)) (st := st) with ⟨c, z⟩ | ⟨c, z⟩
    · rw [z] at h
      have hz : xs.length ≤ sizeLine := by
        have h2 := h
        unfold newL at h2
        split at h2
        · rename_i g
          unfold sortD at g
          rw [List.length_mergeSort] at g
          rw [r.length]
          exact g
        · exact h2.elim
      exact sorted_col hu I R r c h fun Q' E' k => col Q' E' hz k
    · rw [z] at h; exact h.elim
  have lists : ∀ {a : Addr} {xs : List V} {l : List D}, x = .ref a → SqL X.K H a xs → Dens X.w X.K mu H xs l → run X.w X.K ((if sortOk l = true then newL m (sortD l) else mbad : M D) st) mu H W (QV X.w X.K Q) → wpAny (model X.prog X.w) X.A (call (.builtin "sorted") [u]) (EP X pins σ Q) X.xe s := fun {a xs l} ex h1 r h => by
    subst ex
    obtain rfl : u = Value.ref a := rx
    obtain ⟨its, ri, pl, hz⟩ := I.list h1
    refine fin r h fun Q' E' hz k => PyProof.Rows.collect_list pl.isList (k _ s.toks its (fun b o e => ?_) ri) (by rw [← ri.length]; exact hz)
    rw [Heap.get?_update_ne _ _ _ _ (Nat.ne_of_lt (Heap.lt_size e))]
    exact Heap.get?_push_of_some _ e
  have dicts : ∀ {a : Addr} {ks vs : List D} {kv vv : List V}, x = .ref a → DQ X mu H a ks vs kv vv → run X.w X.K ((if sortOk ks = true then newL m (sortD ks) else mbad : M D) st) mu H W (QV X.w X.K Q) → wpAny (model X.prog X.w) X.A (call (.builtin "sorted") [u]) (EP X pins σ Q) X.xe s := fun {a ks vs kv vv} ex q h => by
    subst ex
    obtain rfl : u = Value.ref a := rx
    obtain ⟨es, ep, hr, lo, hz, hl, hk⟩ := dct_raw I q
    refine fin q.kr h fun Q' E' _ k => PySem.W.kdu_collect (src_raw lo es ep) (I.ok.hd hc) hr hz fun h' tk acc keep hi => k h' tk _ keep ?_
    rw [items_keys (acc := es) hi]
    exact hk
  cases hd with
  | @lst a xs l h1 n r1 => exact lists rfl (SqL.of h1) r1 (run_ok h' R)
  | dct h1 n ok nd r q => exact dicts rfl ⟨h1, nd, r, q⟩ (run_ok h' R)
  | @ref a n e =>
    rcases at_ref e R with ⟨l, xs, q, h1, h2⟩ | ⟨ks, vs, kv, vv, q, ok, dq⟩
    · have e1 : asW (D.ref n) st = .ok l st := by unfold asW; dsimp only; rw [q]
      rw [e1] at h'
      exact lists rfl (SqL.of h1) h2 (run_ok h' R)
    · have e1 : asW (D.ref n) st = .ok ks st := by unfold asW; dsimp only; rw [q]
      rw [e1] at h'
      exact dicts rfl dq (run_ok h' R)
  | @tup a xs l h1 r1 =>
    obtain rfl : u = Value.ref a := rx
    obtain ⟨its, ri, ⟨o, ho, hcl, n, hdt⟩, hz⟩ := I.tuple h1.sq
    exact fin r1 (run_ok h' R) fun Q' E' hz k => wpAny_collect_seq a (.inr rfl) ho hcl hdt (fun h2 keep => by simpa using k h2 s.toks its keep ri) (by simpa [← ri.length] using hz)
  | _ => exact h'.elim
end
end PI
set_option Elab.async false
set_option linter.all false
set_option maxRecDepth 100000
set_option maxHeartbeats 4000000
/-! PI, part L: a list's methods; isinstance; is None, is True. -/
namespace PI
open PySem PySem.Spec PyProof.Rows L2
/-- a method called, by the interpreter's answer -/
def rM (X : Cx) (g : D → List D → M D) : V → List V → Hp → VK → Prop := fun x xs H Q => ∃ mu st d l W, Den X.w X.K mu H x d ∧ Dens X.w X.K mu H xs l ∧ RSt X.w X.K mu H st ∧ run X.w X.K (g d l st) mu H W (QV X.w X.K Q)
section
variable {X : Cx}
theorem list_ty {mu : Mu} {H : Hp} {st : Store} {x : V} {d : D} {W : WD} {Q : List D → Store → Mu → Hp → Prop} (hd : Den X.w X.K mu H x d) (R : RSt X.w X.K mu H st) (h : run X.w X.K (asL d st) mu H W Q) : tyV X.K "list" x H ∧ ∃ l, Q l st mu H := by
  obtain ⟨a, xs, l, rfl, h1, h2, h⟩ := run_asL hd R h
  exact ⟨.inl ⟨rfl, xs, SqL.of h1⟩, l, h⟩
theorem tE_meth {W : WS} {σ : L2.St} {H : Hp} {Q : VK} {xa : Env → M D} {xl : Env → M (List D)} {g : D → List D → M D} (h : tE X.w X.K (fun ρ => do let x ← xa ρ; let _ ← asL x; let l ← xl ρ; g x l) W σ H Q) :
    tBM X.K "list" (rM X g) (tE X.w X.K xa W) (tA X.w X.K xl W) σ H Q := by
  obtain ⟨ρ, st, mu, E, R, h⟩ := h
  refine ⟨ρ, st, mu, E, R, run_mono (run_bind h) fun a st1 mu1 H1 x R1 q v hv => ?_⟩
  obtain ⟨t1, l0, q⟩ := list_ty hv R1 (run_bind q)
  exact ⟨t1, ρ, st1, mu1, E.ext x, R1, run_mono (run_bind q) fun l st2 mu2 H2 x2 R2 q2 vs hvs => ⟨mu2, st2, a, l, W σ, hv.ext x2, hvs, R2, q2⟩⟩
theorem tE_meth0 {W : WS} {σ : L2.St} {H : Hp} {Q : VK} {xa : Env → M D} {g : D → List D → M D} (h : tE X.w X.K (fun ρ => do let x ← xa ρ; let _ ← asL x; let l ← (M.pure [] : M (List D)); g x l) W σ H Q) :
    tBM0 X.K "list" (rM X g) (tE X.w X.K xa W) σ H Q := by
  obtain ⟨ρ, st, mu, E, R, h⟩ := h
  refine ⟨ρ, st, mu, E, R, run_mono (run_bind h) fun a st1 mu1 H1 x R1 q v hv => ?_⟩
  obtain ⟨t1, l0, q⟩ := list_ty hv R1 (run_bind q)
  exact ⟨t1, mu1, st1, a, [], W σ, hv, .nil, R1, run_pure (run_bind q) R1⟩
/-- the receiver is the list at a place -/
theorem recv_lst {mu : Mu} {H : Hp} {st : Store} {n : Nat} {a : Addr} {α : Type} {W : WD} {Q : α → Store → Mu → Hp → Prop} {f : List D → Res α} (e : mu.pl[n]? = some a) (R : RSt X.w X.K mu H st)
    (h : run X.w X.K (match st[n]? with
      | some (.lst l) => f l
      | _ => .bad : Res α) mu H W Q) : ∃ l xs, st[n]? = some (.lst l) ∧ H a = some (.lst xs) ∧ Dens X.w X.K mu H xs l ∧ run X.w X.K (f l) mu H W Q := by
  rcases at_ref e R with ⟨l, xs, q, h1, h2⟩ | ⟨ks, vs, kv, vv, q, ok, dq⟩
  · rw [q] at h
    exact ⟨l, xs, q, h1, h2, h⟩
  · rw [q] at h
    exact h.elim
/-- a list written at its place -/
theorem wr_lst {mu : Mu} {H : Hp} {st : Store} {n : Nat} {a : Addr} {α : Type} {r : α} {W : WD} {Q : α → Store → Mu → Hp → Prop} {l' : List D} {xs' : List V} (e : mu.pl[n]? = some a) (R : RSt X.w X.K mu H st) (r' : Dens X.w X.K mu H xs' l') (h : run X.w X.K (.ok r (st.set n (.lst l'))) mu H W Q) : Ext mu H mu (upd H a (.lst xs')) ∧ RSt X.w X.K mu (upd H a (.lst xs')) (st.set n (.lst l')) ∧ Q r (st.set n (.lst l')) mu (upd H a (.lst xs')) := by
  have ext : Ext mu H mu (upd H a (.lst xs')) := Ext.write (List.mem_of_getElem? e) (R.nhid (List.mem_of_getElem? e))
  have R' : RSt X.w X.K mu (upd H a (.lst xs')) (st.set n (.lst l')) := R.write (u := .lst l') e ⟨xs', upd_same, r'.ext ext⟩
  exact ⟨ext, R', h mu _ ext R'⟩
theorem mtD_append : MtR X "list.append" (rM X (meth .append)) := by
  intro pins s σ H x xs v us Q I rx rv h
  obtain ⟨mu, st, d, l, W, hd, hl, R, h⟩ := h
  match l, hl, h with
  | [], _, h => exact h.elim
  | [y], hl0, h =>
    obtain ⟨yv, rfl, hy⟩ := dens1 hl0
    cases hd with
    | @ref a n e =>
      obtain ⟨l, xs, q, h1, h2, h⟩ := recv_lst e R h
      split at h
      · rename_i hz
        obtain ⟨ext, R', q⟩ := wr_lst e R (h2.snoc hy) h
        exact mt_append pins s σ H _ _ v us Q I rx rv ⟨a, xs, yv, rfl, rfl, h1, by rw [h2.length]; exact hz, q _ .non⟩
      · exact h.elim
    | _ => exact h.elim
  | _ :: _ :: _, _, h => exact h.elim
theorem mtD_extend : MtR X "list.extend" (rM X (meth .extend)) := by
  intro pins s σ H x xs v us Q I rx rv h
  obtain ⟨mu, st, d, l, W, hd, hl, R, h⟩ := h
  match l, hl, h with
  | [], _, h => exact h.elim
  | [y], hl0, h =>
    obtain ⟨yv, rfl, hy⟩ := dens1 hl0
    cases hd with
    | @ref a n e =>
      obtain ⟨l, xs, q, h1, h2, h⟩ := recv_lst (f := fun l => (match asL y st with
        | .ok r _ => if l.length + r.length ≤ sizeLine then .ok .non (st.set n (.lst (l ++ r))) else .bad
        | _ => .bad : Res D)) e R h
      have g : ∃ b zs r, yv = .ref b ∧ H b = some (.lst zs) ∧ Dens X.w X.K mu H zs r ∧ asL y st = .ok r st := by
        cases hy with
        | lst g1 n g2 => exact ⟨_, _, _, rfl, g1, g2, rfl⟩
        | @ref b k e2 =>
          rcases at_ref e2 R with ⟨l2, zs, q2, g1, g2⟩ | ⟨ks, vs, kv, vv, q2, ok, dq⟩
          · exact ⟨b, zs, l2, rfl, g1, g2, by unfold asL; dsimp only; rw [q2]⟩
          · have e3 : asL (D.ref k) st = .bad := by unfold asL; dsimp only; rw [q2]
            rw [e3] at h
            exact h.elim
        | _ => exact h.elim
      obtain ⟨b, zs, r, eb, g1, g2, e3⟩ := g
      rw [e3] at h
      dsimp only at h
      split at h
      · rename_i hz
        obtain ⟨ext, R', q⟩ := wr_lst e R (h2.append g2) h
        exact mt_extend pins s σ H _ _ v us Q I rx rv ⟨a, b, xs, zs, rfl, by rw [eb], h1, g1, by rw [h2.length, g2.length]; exact hz, q _ .non⟩
      · exact h.elim
    | _ => exact h.elim
  | _ :: _ :: _, _, h => exact h.elim
theorem mtD_pop : MtR X "list.pop" (rM X (meth .pop)) := by
  intro pins s σ H x xs v us Q I rx rv h
  obtain ⟨mu, st, d, l, W, hd, hl, R, h⟩ := h
  match l, hl, h with
  | [], hl0, h =>
    cases hl0
    cases hd with
    | @ref a n e =>
      obtain ⟨l, xs, q, h1, h2, h⟩ := recv_lst (f := fun l => (match l[l.length - 1]? with
        | some d => .ok d (st.set n (.lst l.dropLast))
        | none => .bad : Res D)) e R h
      cases e2 : l[l.length - 1]? with
      | none => rw [e2] at h; exact h.elim
      | some y =>
        rw [e2] at h
        obtain ⟨yv, g1, g2⟩ := h2.get e2
        obtain ⟨ext, R', q⟩ := wr_lst e R h2.dropLast h
        exact mt_pop pins s σ H _ _ v us Q I rx rv ⟨a, xs, yv, rfl, rfl, h1, by rw [h2.length]; exact g1, q _ (g2.ext ext)⟩
    | _ => exact h.elim
  | [y], hl0, h =>
    obtain ⟨yv, rfl, hy⟩ := dens1 hl0
    cases hy with
    | int k =>
      cases hd with
      | @ref a n e =>
        obtain ⟨l, xs, q, h1, h2, h⟩ := recv_lst (f := fun l => (match place k l.length with
          | some j => (match l[j]? with
            | some d => .ok d (st.set n (.lst (l.eraseIdx j)))
            | none => .bad)
          | none => .bad : Res D)) e R h
        cases e1 : place k l.length with
        | none => rw [e1] at h; exact h.elim
        | some j =>
          rw [e1] at h
          dsimp only at h
          cases e2 : l[j]? with
          | none => rw [e2] at h; exact h.elim
          | some y =>
            rw [e2] at h
            obtain ⟨yv, g1, g2⟩ := h2.get e2
            obtain ⟨ext, R', q⟩ := wr_lst e R (h2.eraseIdx j) h
            obtain ⟨s1, s2, s3, s4⟩ := L2.ixN_seq (show L2.ixN xs.length k = some j by rw [h2.length]; exact e1)
            obtain ⟨_, _, _, _, hz⟩ := (show ObjOk X.prog X.w H s.heap a (.lst xs) from I.hok a _ h1)
            have hz : xs.length ≤ sizeLine := (show ObjOk X.prog X.w H s.heap a (.lst xs) from I.hok a _ h1).1
            have hn := line63
            exact mt_popAt pins s σ H _ _ v us Q I rx rv ⟨a, xs, k, j, yv, rfl, rfl, h1, by omega, by omega, s1, g1, q _ (g2.ext ext)⟩
      | _ => exact h.elim
    | _ => exact h.elim
  | y :: _ :: _, _, h => cases y <;> exact h.elim
theorem index_py {x : D} (hx : x.plain = true) : ∀ {l : List D} {j : Nat}, D.fitL l 49 = true → l.findIdx? (fun y => D.eqv y x) = some j → ∃ z, (pys l)[j]? = some z ∧ PyData.eqv z (py x) = true ∧ ∀ m z', m < j → (pys l)[m]? = some z' → PyData.eqv z' (py x) = false
  | [], j, _, e => by cases e
  | d :: r, j, f, e => by
    obtain ⟨f1, f2⟩ := Bool.and_eq_true_iff.mp (show (d.fitN 49 && D.fitL r 49) = true from f)
    have ed := py_eqv d x 49 50 f1 hx
    rw [List.findIdx?_cons] at e
    by_cases c : D.eqv d x = true
    · rw [if_pos c] at e
      cases e
      exact ⟨py d, rfl, by rw [ed]; exact c, fun m z' hm => absurd hm (Nat.not_lt_zero m)⟩
    · rw [if_neg c] at e
      obtain ⟨i, e1, e2⟩ := Option.map_eq_some_iff.mp e
      obtain ⟨z, g1, g2, g3⟩ := index_py hx f2 e1
      subst e2
      refine ⟨z, g1, g2, fun m z' hm hz => ?_⟩
      cases m with
      | zero =>
        have e3 : py d = z' := Option.some.inj hz
        rw [← e3, ed]
        exact Bool.eq_false_iff.mpr c
      | succ m => exact g3 m z' (Nat.lt_of_succ_lt_succ hm) hz
theorem mtD_index (hu : X.A.units + 65 < cLine) : MtR X "list.index" (rM X (meth .index)) := by
  intro pins s σ H x xs v us Q I rx rv h
  obtain ⟨mu, st, d, l, W, hd, hl, R, h⟩ := h
  match l, hl, h with
  | [], _, h => exact h.elim
  | [y], hl0, h =>
    obtain ⟨yv, rfl, hy⟩ := dens1 hl0
    obtain ⟨a, xs, l, rfl, h1, h2, h⟩ := run_asL hd R (run_bind (show run X.w X.K ((do
      let l ← asL d
      if y.plain = true ∧ D.plainL l = true then (match l.findIdx? fun z => D.eqv z y with
        | some j => M.pure (.int j)
        | none => mbad) else mbad : M D) st) mu H W (QV X.w X.K Q) from h))
    rcases if_cases (c := y.plain = true ∧ D.plainL l = true) (a := (match l.findIdx? fun z => D.eqv z y with
        | some j => M.pure (.int j)
        | none => mbad : M D)) (b := mbad) (st := st) with ⟨c, z⟩ | ⟨c, z⟩
    · rw [z] at h
      cases e : l.findIdx? fun z => D.eqv z y with
      | none => rw [e] at h; exact h.elim
      | some j =>
        rw [e] at h
        obtain ⟨z, g1, g2, g3⟩ := index_py c.1 c.2 e
        exact mt_indexD hu pins s σ H _ _ v us Q I rx rv ⟨a, yv, py y, pys l, j, z, rfl, rfl, .lst (SqL.of h1) (fit_pys h2 c.2), fit_py hy c.1, shaped_pys c.2, shaped_py c.1, g1, g2, g3, run_pure h R _ (.int _)⟩
    · rw [z] at h; exact h.elim
  | _ :: _ :: _, _, h => exact h.elim
/-! ### is None, is True -/
def isND (neg : Bool) (x : D) : M D := M.pure (.bl (xor neg (decide (x = .non))))
theorem non_iff {mu : Mu} {H : Hp} {x : V} {d : D} (h : Den X.w X.K mu H x d) : decide (d = .non) = decide (x = .non) := by
  cases h <;> simp
end
end PI
set_option Elab.async false
set_option linter.all false
set_option maxRecDepth 100000
set_option maxHeartbeats 4000000
/-! PI, part M: an object hidden while it is made; what a loop walks. -/
namespace PI
open PySem PySem.Spec PyProof.Rows L2
/-! ### hidden objects -/
def hide (D : Addr) (mu : Mu) : Mu := ⟨mu.pl, D :: mu.hid⟩
def unhide (D : Addr) (mu : Mu) : Mu := ⟨mu.pl, mu.hid.filter fun a => decide (a ≠ D)⟩
/-- the heap without D -/
def erase (D : Addr) (H : Hp) : Hp := fun a => if a = D then none else H a
theorem erase_same {D : Addr} {H : Hp} : erase D H D = none := by unfold erase; rw [if_pos rfl]
theorem erase_ne {D a : Addr} {H : Hp} (h : a ≠ D) : erase D H a = H a := by unfold erase; rw [if_neg h]
theorem erase_upd {D : Addr} {H : Hp} {o : HO} (h : H D = some o) : H = upd (erase D H) D o := by
  funext a
  unfold upd erase
  by_cases e : a = D
  · rw [if_pos e, e, h]
  · rw [if_neg e, if_neg e]
theorem upd_erase {D : Addr} {H : Hp} {o : HO} : upd H D o = upd (erase D H) D o := by
  funext a
  unfold upd erase
  by_cases e : a = D
  · rw [if_pos e, if_pos e]
  · rw [if_neg e, if_neg e, if_neg e]
theorem unhide_no {D a : Addr} {mu : Mu} (h : mu.no a) : (unhide D mu).no a := ⟨h.1, fun z => h.2 (List.mem_filter.mp z).1⟩
theorem no_ne {D a : Addr} {mu : Mu} (h : mu.no a) (hD : D ∈ mu.hid) : a ≠ D := fun z => h.2 (by rw [z]; exact hD)
section
variable {w : World} {K : PySem.W.Frag} {mu mu' : Mu} {H H' : Hp} {st : Store} {D : Addr}
mutual
/-- what does not name D stands without D -/
theorem Den.erase (hD : D ∈ mu.hid) : ∀ {v : V} {d : PI.D}, Den w K mu H v d → Den w K (unhide D mu) (erase D H) v d
  | _, _, .non => .non
  | _, _, .bl b => .bl b
  | _, _, .int i => .int i
  | _, _, .str s => .str s
  | _, _, .tup h r => by
    refine .tup ?_ (Dens.erase hD r)
    rcases h with ⟨h, n⟩ | h
    · have ne := no_ne n hD
      refine .inl ⟨?_, unhide_no n⟩
      rcases h with h | ⟨o, h⟩
      · exact .inl (by rw [erase_ne ne]; exact h)
      · exact .inr ⟨o, by rw [erase_ne ne]; exact h⟩
    · exact .inr h
  | _, _, .lst h n r => .lst (by rw [erase_ne (no_ne n hD)]; exact h) (unhide_no n) (Dens.erase hD r)
  | _, _, .scr h => .scr (by
      rcases h with ⟨⟨o, h⟩, n⟩ | h
      · exact .inl ⟨⟨o, by rw [erase_ne (no_ne n hD)]; exact h⟩, unhide_no n⟩
      · exact .inr h)
  | _, _, .dct h n ok nd r q => .dct (h.keep fun o e => by rw [erase_ne (no_ne n hD)]; exact e) (unhide_no n) ok nd (Dens.erase hD r) (Dens.erase hD q)
  | _, _, .ref h => .ref h
theorem Dens.erase (hD : D ∈ mu.hid) : ∀ {xs : List V} {l : List PI.D}, Dens w K mu H xs l → Dens w K (unhide D mu) (erase D H) xs l
  | _, _, .nil => .nil
  | _, _, .cons h r => .cons (Den.erase hD h) (Dens.erase hD r)
end
theorem RSt.erase (R : RSt w K mu H st) (hD : D ∈ mu.hid) : RSt w K (unhide D mu) (erase D H) st := by
  refine ⟨R.len, R.nd, fun i o e => ?_, fun a ha => ?_⟩
  · obtain ⟨a, e1, e2⟩ := R.ob i o e
    have ne : a ≠ D := fun z => (R.hid D hD).1 (z ▸ List.mem_of_getElem? e1)
    exact ⟨a, e1, e2.same (fun u q => by rw [erase_ne ne]; exact q) fun q => Dens.erase hD q⟩
  · obtain ⟨h1, h2⟩ := List.mem_filter.mp ha
    obtain ⟨g1, u, g2⟩ := R.hid a h1
    exact ⟨g1, u, by rw [erase_ne (of_decide_eq_true h2)]; exact g2⟩
theorem REs.erase {ρ : Env} {σ : L2.St} (E : REs w K mu H ρ σ) (hD : D ∈ mu.hid) : REs w K (unhide D mu) (erase D H) ρ σ := ⟨E.len, fun i d e => by
  obtain ⟨v, e1, e2⟩ := E.rel i d e
  exact ⟨v, e1, e2.erase hD⟩⟩
/-- a new object is hidden -/
theorem Ext.hide {o : HO} (hD : H D = none) : Ext mu H (hide D mu) (upd H D o) := by
  have x : Ext mu H mu (upd H D o) := Ext.laid hD
  refine ⟨⟨x.w.pre, fun a h => List.mem_cons_of_mem _ h, fun a h => ?_, x.w.keep, x.w.there⟩, x.hid⟩
  rcases List.mem_cons.mp (show a ∈ D :: mu.hid from h) with rfl | h
  · exact .inr hD
  · exact .inl h
theorem RSt.hide {o : HO} (R : RSt w K mu H st) (hD : H D = none) : RSt w K (hide D mu) (upd H D o) st := by
  have f := R.fresh hD
  refine ⟨R.len, R.nd, fun i u e => ?_, fun a ha => ?_⟩
  · obtain ⟨a, e1, e2⟩ := R.ob i u e
    exact ⟨a, e1, e2.same (fun v q => by rw [upd_ne (ne_of_none q hD)]; exact q) fun q => Dens.ext (Ext.hide hD) q⟩
  · rcases List.mem_cons.mp (show a ∈ D :: mu.hid from ha) with rfl | ha
    · exact ⟨f.1, o, upd_same⟩
    · obtain ⟨h1, u, h2⟩ := R.hid a ha
      exact ⟨h1, u, by rw [upd_ne (ne_of_none h2 hD)]; exact h2⟩
/-- back at where D was not -/
theorem Ext.unhide {o : HO} (hD : H D = none) (R : RSt w K mu H st) (x : Ext (PI.hide D mu) (upd H D o) mu' H') : D ∈ mu'.hid ∧ H' D = some o ∧ Ext mu H (PI.unhide D mu') (PI.erase D H') := by
  have nD : D ∉ mu.pl := (R.fresh hD).1
  have ne : ∀ a, upd H D o a = none → a ≠ D ∧ H a = none := fun a e => by
    have n : a ≠ D := fun z => by rw [z, upd_same] at e; cases e
    rw [upd_ne n] at e
    exact ⟨n, e⟩
  refine ⟨x.w.old D List.mem_cons_self, x.hid D List.mem_cons_self o upd_same, ⟨?_, fun a h => ?_, fun a h => ?_, fun a u e n => ?_, fun a u e => ?_⟩, fun a h u e => ?_⟩
  · obtain ⟨r, h, hr⟩ := x.w.pre
    exact ⟨r, h, fun a ha => (ne a (hr a ha)).2⟩
  · refine List.mem_filter.mpr ⟨x.w.old a (List.mem_cons_of_mem _ h), decide_eq_true fun z => ?_⟩
    obtain ⟨_, u, e⟩ := R.hid a h
    rw [z, hD] at e; cases e
  · obtain ⟨h1, h2⟩ := List.mem_filter.mp h
    rcases x.w.new a h1 with g | g
    · rcases List.mem_cons.mp (show a ∈ D :: mu.hid from g) with rfl | g
      · exact absurd rfl (of_decide_eq_true h2)
      · exact .inl g
    · exact .inr (ne a g).2
  · have na : a ≠ D := ne_of_none e hD
    rw [erase_ne na]
    exact x.w.keep a u (by rw [upd_ne na]; exact e) ⟨n.1, fun z => by
      rcases List.mem_cons.mp (show a ∈ D :: mu.hid from z) with z | z
      · exact na z
      · exact n.2 z⟩
  · have na : a ≠ D := ne_of_none e hD
    rw [erase_ne na]
    exact x.w.there a u (by rw [upd_ne na]; exact e)
  · have na : a ≠ D := ne_of_none e hD
    rw [erase_ne na]
    exact x.hid a (List.mem_cons_of_mem _ h) u (by rw [upd_ne na]; exact e)
/-- it is hidden as it was -/
theorem Ext.again {o : HO} (h1 : D ∈ mu.hid) (h2 : H D = some o) : Ext (PI.hide D (PI.unhide D mu)) (upd (PI.erase D H) D o) mu H := by
  rw [← erase_upd h2]
  refine ⟨⟨⟨[], by simp [PI.hide, PI.unhide], fun _ h => nomatch h⟩, fun a h => ?_, fun a h => .inl ?_, fun _ _ e _ => e, fun _ _ e => ⟨_, e⟩⟩, fun _ _ _ e => e⟩
  · rcases List.mem_cons.mp (show a ∈ D :: (PI.unhide D mu).hid from h) with rfl | h
    · exact h1
    · exact (List.mem_filter.mp h).1
  · by_cases e : a = D
    · subst e; exact List.mem_cons_self
    · exact List.mem_cons_of_mem _ (List.mem_filter.mpr ⟨h, decide_eq_true e⟩)
/-- an evaluation while D is hidden -/
theorem run_hide {α : Type} {r : Res α} {o : HO} {W : WD} {Q : α → Store → Mu → Hp → Prop} {st0 : Store} (hD : H D = none) (R : RSt w K mu H st0) (h : run w K r mu H (fun _ _ _ _ _ => False) Q) (x : Ext (PI.hide D mu) (upd H D o) mu' H') :
    run w K r mu' H' W fun a st mu1 H1 => D ∈ mu1.hid ∧ H1 D = some o ∧ RSt w K (PI.unhide D mu1) (PI.erase D H1) st ∧ Ext mu H (PI.unhide D mu1) (PI.erase D H1) ∧ Q a st (PI.unhide D mu1) (PI.erase D H1) := by
  cases r with
  | ok a st =>
    intro mu2 H2 y R2
    obtain ⟨h1, h2, h3⟩ := (x.trans y).unhide hD R
    have R3 := R2.erase h1
    exact ⟨h1, h2, R3, h3, h _ _ h3 R3⟩
  | err c as st =>
    intro mu2 H2 y R2
    obtain ⟨h1, h2, h3⟩ := (x.trans y).unhide hD R
    exact (h _ _ h3 (R2.erase h1)).elim
  | bad => exact h
end
end PI
set_option Elab.async false
set_option linter.all false
set_option maxRecDepth 100000
set_option maxHeartbeats 4000000
/-! PI, part N: iterators. -/
namespace PI
open PySem PySem.Spec PyProof.Rows L2
/-- the iterator yields the source's things -/
structure SrcOk (X : Cx) (mu0 : Mu) (H0 : Hp) (J : L2.It) (src : Src) : Prop where
  go : ∀ (mu : Mu) (H : Hp) (st : Store) (i : Nat) (d : D), ExtW mu0 H0 mu H → RSt X.w X.K mu H st → src.chk st = true → src.items[i]? = some d →
    J.go i H ∧ ∀ x H', J.yld i H x H' → Ext mu H mu H' ∧ RSt X.w X.K mu H' st ∧ Den X.w X.K mu H' x d
  stop : ∀ (mu : Mu) (H : Hp) (st : Store), ExtW mu0 H0 mu H → RSt X.w X.K mu H st → src.chk st = true → J.stop src.items.length H
def LSrc (X : Cx) (mu : Mu) (H : Hp) (a : Addr) (src : Src) : Prop := ∀ (mu1 : Mu) (H1 : Hp) (st1 : Store), ExtW mu H mu1 H1 → RSt X.w X.K mu1 H1 st1 → src.chk st1 = true → ∃ xs, SqL X.K H1 a xs ∧ Dens X.w X.K mu1 H1 xs src.items
def TSrc (X : Cx) (mu : Mu) (H : Hp) (a : Addr) (src : Src) : Prop := ∀ (mu1 : Mu) (H1 : Hp) (st1 : Store), ExtW mu H mu1 H1 → RSt X.w X.K mu1 H1 st1 → src.chk st1 = true → ∃ xs, SqT X.K H1 a xs ∧ Dens X.w X.K mu1 H1 xs src.items
section
variable {X : Cx} {mu : Mu} {H : Hp} {st : Store}
theorem chk_one {n : Nat} {o : O} {l : List D} {b : Bool} (h : (Src.mk [(n, o)] l b).chk st = true) : st[n]? = some o := by
  unfold Src.chk at h
  simpa using h
theorem chk_app {s t : Src} {l : List D} {b : Bool} (h : (Src.mk (s.w ++ t.w) l b).chk st = true) : s.chk st = true ∧ t.chk st = true := by
  unfold Src.chk at h ⊢
  rw [List.all_append] at h
  exact Bool.and_eq_true_iff.mp h
theorem run_srcOf {W : WD} {v : V} {d : D} {Q : Src → Store → Mu → Hp → Prop} (hd : Den X.w X.K mu H v d) (R : RSt X.w X.K mu H st) (h : run X.w X.K (srcOf d st) mu H W Q) :
    ∃ a src, v = .ref a ∧ Q src st mu H ∧ (((∃ xs, SqL X.K H a xs) ∧ LSrc X mu H a src ∧ src.isL = true) ∨ ((∃ xs, SqT X.K H a xs) ∧ TSrc X mu H a src ∧ src.isL = false)) := by
  cases hd with
  | @tup a xs l h1 r => exact ⟨a, _, rfl, run_ok h R, .inr ⟨⟨xs, h1.sq⟩, fun mu1 H1 st1 x R1 _ => ⟨xs, (h1.extW x).sq, r.extW x⟩, rfl⟩⟩
  | @lst a xs l h1 n r => exact ⟨a, _, rfl, run_ok h R, .inl ⟨⟨xs, SqL.of h1⟩, fun mu1 H1 st1 x R1 _ => ⟨xs, SqL.of (x.keep _ _ h1 n), r.extW x⟩, rfl⟩⟩
  | @ref a n e =>
    rcases at_ref e R with ⟨l, xs, q, h1, h2⟩ | ⟨ks, vs, kv, vv, q, ok, dq⟩
    · have e1 : srcOf (D.ref n) st = .ok ⟨[(n, .lst l)], l, true⟩ st := by unfold srcOf; dsimp only; rw [q]
      rw [e1] at h
      refine ⟨a, _, rfl, run_ok h R, .inl ⟨⟨xs, SqL.of h1⟩, fun mu1 H1 st1 x R1 c => ?_, rfl⟩⟩
      obtain ⟨ys, g1, g2⟩ := R1.at (x.at e) (chk_one c)
      exact ⟨ys, SqL.of g1, g2⟩
    · have e1 : srcOf (D.ref n) st = .bad := by unfold srcOf; dsimp only; rw [q]
      rw [e1] at h
      exact h.elim
  | _ => exact h.elim
theorem srcL {a : Addr} {src : Src} (L : LSrc X mu H a src) : SrcOk X mu H (Itl X.K a) src := by
  refine ⟨fun mu1 H1 st1 i d x R1 c e => ?_, fun mu1 H1 st1 x R1 c => ?_⟩
  · obtain ⟨xs, h1, h2⟩ := L mu1 H1 st1 x R1 c
    obtain ⟨v, e1, e2⟩ := h2.get e
    refine ⟨⟨xs, v, h1, e1⟩, fun y H' hy => ?_⟩
    obtain ⟨rfl, hy⟩ := hy
    have e3 := hy xs h1
    rw [e1] at e3
    cases e3
    exact ⟨.refl, R1, e2⟩
  · obtain ⟨xs, h1, h2⟩ := L mu1 H1 st1 x R1 c
    exact ⟨xs, h1, by rw [h2.length]; exact Nat.le_refl _⟩
theorem srcT {a : Addr} {src : Src} (L : TSrc X mu H a src) : SrcOk X mu H (Itt X.K a) src := by
  refine ⟨fun mu1 H1 st1 i d x R1 c e => ?_, fun mu1 H1 st1 x R1 c => ?_⟩
  · obtain ⟨xs, h1, h2⟩ := L mu1 H1 st1 x R1 c
    obtain ⟨v, e1, e2⟩ := h2.get e
    refine ⟨⟨xs, v, h1, e1⟩, fun y H' hy => ?_⟩
    obtain ⟨rfl, hy⟩ := hy
    have e3 := hy xs h1
    rw [e1] at e3
    cases e3
    exact ⟨.refl, R1, e2⟩
  · obtain ⟨xs, h1, h2⟩ := L mu1 H1 st1 x R1 c
    exact ⟨xs, h1, by rw [h2.length]; exact Nat.le_refl _⟩
theorem intsD_get (lo : Int) (n i : Nat) : (intsD lo n)[i]? = if i < n then some (.int (lo + (i : Nat))) else none := by
  unfold intsD
  rw [List.getElem?_map]
  by_cases h : i < n
  · rw [if_pos h, List.getElem?_range h]; rfl
  · rw [if_neg h, List.getElem?_eq_none (by simpa using h)]; rfl
theorem srcRng (lo : Int) (n : Nat) : SrcOk X mu H (Itr lo n) ⟨[], intsD lo n, true⟩ := by
  refine ⟨fun mu1 H1 st1 i d x R1 c e => ?_, fun mu1 H1 st1 x R1 c => ?_⟩
  · have e' : (intsD lo n)[i]? = some d := e
    rw [intsD_get] at e'
    by_cases hi : i < n
    · rw [if_pos hi] at e'
      cases e'
      refine ⟨hi, fun y H' hy => ?_⟩
      obtain ⟨rfl, rfl⟩ := hy
      exact ⟨.refl, R1, .int _⟩
    · rw [if_neg hi] at e'; cases e'
  · show n ≤ (intsD lo n).length
    unfold intsD
    simp
theorem srcRg3 (lo c : Int) (n : Nat) : SrcOk X mu H (Itc lo c n) ⟨[], (List.range n).map fun i => D.int (lo + (i : Nat) * c), true⟩ := by
  refine ⟨fun mu1 H1 st1 i d x R1 k e => ?_, fun mu1 H1 st1 x R1 k => ?_⟩
  · have e' : ((List.range n).map fun i => D.int (lo + (i : Nat) * c))[i]? = some d := e
    rw [List.getElem?_map] at e'
    by_cases hi : i < n
    · rw [List.getElem?_range hi] at e'
      cases e'
      refine ⟨hi, fun y H' hy => ?_⟩
      obtain ⟨rfl, rfl⟩ := hy
      exact ⟨.refl, R1, .int _⟩
    · rw [List.getElem?_eq_none (by simpa using hi)] at e'; cases e'
  · show n ≤ ((List.range n).map fun i => D.int (lo + (i : Nat) * c)).length
    simp
theorem numbered_get : ∀ (k : Nat) (l : List D) (i : Nat), (numbered k l)[i]? = (l[i]?).map fun d => .tup [.int ((k + i : Nat) : Int), d]
  | _, [], _ => by simp [numbered]
  | k, d :: r, 0 => by simp [numbered]
  | k, d :: r, i + 1 => by
    show (numbered (k + 1) r)[i]? = (r[i]?).map _
    rw [numbered_get (k + 1) r i]
    congr 1
    funext d
    rw [show k + 1 + i = k + (i + 1) by omega]
theorem numbered_length : ∀ (k : Nat) (l : List D), (numbered k l).length = l.length
  | _, [] => rfl
  | k, d :: r => by show (numbered (k + 1) r).length + 1 = r.length + 1; rw [numbered_length]
theorem zipD_get : ∀ (l r : List D) (i : Nat) (d : D), (zipD l r)[i]? = some d → ∃ a b, l[i]? = some a ∧ r[i]? = some b ∧ d = .tup [a, b]
  | a :: l, b :: r, 0, d, e => ⟨a, b, rfl, rfl, (Option.some.inj e).symm⟩
  | a :: l, b :: r, i + 1, d, e => zipD_get l r i d e
  | [], _, _, _, e => by simp [zipD] at e
  | _ :: _, [], _, _, e => by simp [zipD] at e
theorem zipD_length : ∀ (l r : List D), (zipD l r).length = min l.length r.length
  | [], r => by simp [zipD]
  | _ :: _, [] => by simp [zipD]
  | a :: l, b :: r => by show (zipD l r).length + 1 = min (l.length + 1) (r.length + 1); rw [zipD_length]; omega
/-- a new pair -/
theorem pair_new {T : Addr} {x y : V} {a b : D} (R : RSt X.w X.K mu H st) (hT : H T = none) (h1 : Den X.w X.K mu H x a) (h2 : Den X.w X.K mu H y b) : Ext mu H mu (upd H T (.tup [x, y])) ∧ RSt X.w X.K mu (upd H T (.tup [x, y])) st ∧ Den X.w X.K mu (upd H T (.tup [x, y])) (.ref T) (.tup [a, b]) :=
  ⟨Ext.laid hT, R.new hT, .tup (.inl ⟨.inl upd_same, R.fresh hT⟩) (.cons (h1.ext (Ext.laid hT)) (.cons (h2.ext (Ext.laid hT)) .nil))⟩
/-- the tuple at a, each item in a new pair -/
def IteT (K : PySem.W.Frag) (a : Addr) : L2.It :=
  ⟨fun i H => ∃ (xs : List V) (x : V), SqT K H a xs ∧ xs[i]? = some x, fun i H v H' => ∃ T x, v = .ref T ∧ H T = none ∧ H' = upd H T (.tup [.int (i : Nat), x]) ∧ ∀ xs, SqT K H a xs → xs[i]? = some x, fun i H => ∃ xs : List V, SqT K H a xs ∧ xs.length ≤ i⟩
theorem srcE {a : Addr} {src : Src} (L : LSrc X mu H a src) : SrcOk X mu H (Ite X.K a) ⟨src.w, numbered 0 src.items, true⟩ := by
  refine ⟨fun mu1 H1 st1 i d x R1 c e => ?_, fun mu1 H1 st1 x R1 c => ?_⟩
  · obtain ⟨xs, h1, h2⟩ := L mu1 H1 st1 x R1 c
    have e' : (numbered 0 src.items)[i]? = some d := e
    rw [numbered_get] at e'
    obtain ⟨d0, e0, rfl⟩ := Option.map_eq_some_iff.mp e'
    obtain ⟨v, e1, e2⟩ := h2.get e0
    refine ⟨⟨xs, v, h1, e1⟩, fun y H' hy => ?_⟩
    obtain ⟨T, z, rfl, hT, rfl, hz⟩ := hy
    have e3 := hz xs h1
    rw [e1] at e3
    cases e3
    rw [Nat.zero_add]
    exact pair_new R1 hT (.int _) e2
  · obtain ⟨xs, h1, h2⟩ := L mu1 H1 st1 x R1 c
    exact ⟨xs, h1, by show xs.length ≤ (numbered 0 src.items).length; rw [h2.length, numbered_length]; exact Nat.le_refl _⟩
theorem srcET {a : Addr} {src : Src} (L : TSrc X mu H a src) : SrcOk X mu H (IteT X.K a) ⟨src.w, numbered 0 src.items, true⟩ := by
  refine ⟨fun mu1 H1 st1 i d x R1 c e => ?_, fun mu1 H1 st1 x R1 c => ?_⟩
  · obtain ⟨xs, h1, h2⟩ := L mu1 H1 st1 x R1 c
    have e' : (numbered 0 src.items)[i]? = some d := e
    rw [numbered_get] at e'
    obtain ⟨d0, e0, rfl⟩ := Option.map_eq_some_iff.mp e'
    obtain ⟨v, e1, e2⟩ := h2.get e0
    refine ⟨⟨xs, v, h1, e1⟩, fun y H' hy => ?_⟩
    obtain ⟨T, z, rfl, hT, rfl, hz⟩ := hy
    have e3 := hz xs h1
    rw [e1] at e3
    cases e3
    rw [Nat.zero_add]
    exact pair_new R1 hT (.int _) e2
  · obtain ⟨xs, h1, h2⟩ := L mu1 H1 st1 x R1 c
    exact ⟨xs, h1, by show xs.length ≤ (numbered 0 src.items).length; rw [h2.length, numbered_length]; exact Nat.le_refl _⟩
theorem srcZ {a b : Addr} {s t : Src} (L : LSrc X mu H a s) (L2 : LSrc X mu H b t) : SrcOk X mu H (Itz X.K a b) ⟨s.w ++ t.w, zipD s.items t.items, true⟩ := by
  refine ⟨fun mu1 H1 st1 i d x R1 c e => ?_, fun mu1 H1 st1 x R1 c => ?_⟩
  · obtain ⟨c1, c2⟩ := chk_app c
    obtain ⟨xs, h1, h2⟩ := L mu1 H1 st1 x R1 c1
    obtain ⟨ys, g1, g2⟩ := L2 mu1 H1 st1 x R1 c2
    obtain ⟨da, db, ea, eb, rfl⟩ := zipD_get _ _ i d e
    obtain ⟨v, e1, e2⟩ := h2.get ea
    obtain ⟨u, f1, f2⟩ := g2.get eb
    refine ⟨⟨xs, ys, v, u, h1, g1, e1, f1⟩, fun y H' hy => ?_⟩
    obtain ⟨T, z, z2, rfl, hT, rfl, hz, hz2⟩ := hy
    have e3 := hz xs h1
    rw [e1] at e3
    cases e3
    have e4 := hz2 ys g1
    rw [f1] at e4
    cases e4
    exact pair_new R1 hT e2 f2
  · obtain ⟨c1, c2⟩ := chk_app c
    obtain ⟨xs, h1, h2⟩ := L mu1 H1 st1 x R1 c1
    obtain ⟨ys, g1, g2⟩ := L2 mu1 H1 st1 x R1 c2
    refine ⟨xs, ys, h1, g1, ?_⟩
    show xs.length ≤ (zipD s.items t.items).length ∨ ys.length ≤ (zipD s.items t.items).length
    rw [zipD_length, h2.length, g2.length]
    omega
theorem srcZT {a b : Addr} {s t : Src} (L : TSrc X mu H a s) (L2 : TSrc X mu H b t) : SrcOk X mu H (RZ.ItzT X.K a b) ⟨s.w ++ t.w, zipD s.items t.items, true⟩ := by
  refine ⟨fun mu1 H1 st1 i d x R1 c e => ?_, fun mu1 H1 st1 x R1 c => ?_⟩
  · obtain ⟨c1, c2⟩ := chk_app c
    obtain ⟨xs, h1, h2⟩ := L mu1 H1 st1 x R1 c1
    obtain ⟨ys, g1, g2⟩ := L2 mu1 H1 st1 x R1 c2
    obtain ⟨da, db, ea, eb, rfl⟩ := zipD_get _ _ i d e
    obtain ⟨v, e1, e2⟩ := h2.get ea
    obtain ⟨u, f1, f2⟩ := g2.get eb
    refine ⟨⟨xs, ys, v, u, h1, g1, e1, f1⟩, fun y H' hy => ?_⟩
    obtain ⟨T, z, z2, rfl, hT, rfl, hz, hz2⟩ := hy
    have e3 := hz xs h1
    rw [e1] at e3
    cases e3
    have e4 := hz2 ys g1
    rw [f1] at e4
    cases e4
    exact pair_new R1 hT e2 f2
  · obtain ⟨c1, c2⟩ := chk_app c
    obtain ⟨xs, h1, h2⟩ := L mu1 H1 st1 x R1 c1
    obtain ⟨ys, g1, g2⟩ := L2 mu1 H1 st1 x R1 c2
    refine ⟨xs, ys, h1, g1, ?_⟩
    show xs.length ≤ (zipD s.items t.items).length ∨ ys.length ≤ (zipD s.items t.items).length
    rw [zipD_length, h2.length, g2.length]
    omega
end
/-! ### as iterables -/
/-- a source's iterator, by the interpreter's answer -/
def tI (X : Cx) (x : Env → M Src) (W : WS) : TI := fun σ H R => ∃ ρ st mu, REs X.w X.K mu H ρ σ ∧ RSt X.w X.K mu H st ∧ run X.w X.K (x ρ st) mu H (W σ) fun src _ mu1 H1 => ∀ J, SrcOk X mu1 H1 J src → R J H1
section
variable {X : Cx} {W : WS} {σ : L2.St} {H : Hp} {R : L2.It → Hp → Prop}
/-- a list or a tuple walked -/
def iSeq (K : PySem.W.Frag) (tl : TE) : TI := fun σ H R => tl σ H fun x H1 => ∃ a, x = .ref a ∧ (((∃ xs, SqL K H1 a xs) ∧ R (Itl K a) H1) ∨ ((∃ xs, SqT K H1 a xs) ∧ R (Itt K a) H1))
theorem one_it {pins : List (Addr × Obj)} {σ : L2.St} {H : Hp} {s : Shared} {tg : Expr} {J : L2.It} {tn : Nat → Heap → Prop} {o : Obj} (I : Inv X pins σ H s) (T : Turn X.prog X.w X.K tg J [s.heap.objs.size] s.heap.objs.size tn) (h0 : tn 0 (s.heap.push o)) (q : R J H) :
    PIE X pins σ tg R (.ref s.heap.objs.size) { s with heap := s.heap.push o } := by
  refine ⟨s.heap.objs.size, [s.heap.objs.size], tn, J, H, rfl, I.kept (t' := s.toks) fun b o e => Heap.get?_push_of_some _ e, T, h0, fun b hb => ?_, q⟩
  rw [List.mem_singleton.mp hb]
  exact I.fpOk (Nat.le_refl _) (I.hok.fresh (Nat.le_refl _))
theorem pi_seqD {tg l : Expr} {tl : TE} (hl : PE X l tl) : PI X tg l (iSeq X.K tl) := by
  refine ⟨fun pins s σ H R I h => thn (hl.run pins s σ H _ I h) fun v s1 hv => ?_⟩
  obtain ⟨x, H1, I1, rx, a, rfl, hq⟩ := hv
  obtain rfl : v = Value.ref a := rx
  rcases hq with ⟨⟨xs, hs⟩, q⟩ | ⟨⟨xs, hs⟩, q⟩
  · obtain ⟨its, _, p, _⟩ := I1.list hs
    exact wpAny_pyIter_list p.isList (one_it I1 (turn_list a _) ⟨_, Heap.get?_push_size _ rfl, rfl, rfl⟩ q)
  · obtain ⟨its, _, p, _⟩ := I1.tuple hs
    exact wpAny_pyIter_tuple (show s1.heap.IsTuple a its.toArray from p) (one_it I1 (turn_tuple a _) ⟨_, Heap.get?_push_size _ rfl, rfl, rfl⟩ q)
theorem tI_seq {xa : Env → M D} (h : tI X (fun ρ => do let d ← xa ρ; srcOf d) W σ H R) : iSeq X.K (tE X.w X.K xa W) σ H R := by
  obtain ⟨ρ, st, mu, E, S, h⟩ := h
  refine ⟨ρ, st, mu, E, S, run_mono (run_bind h) fun d st1 mu1 H1 x S1 q v hv => ?_⟩
  obtain ⟨a, src, rfl, q, ⟨h1, L, _⟩ | ⟨h1, L, _⟩⟩ := run_srcOf hv S1 q
  · exact ⟨a, rfl, .inl ⟨h1, q _ (srcL L)⟩⟩
  · exact ⟨a, rfl, .inr ⟨h1, q _ (srcT L)⟩⟩
/-! ### enumerate of a tuple -/
theorem turn_enumT {P : Program} {w : World} {K : PySem.W.Frag} {elts : List Expr} {kk : Nat} {tpos : Pos} (a e it : Addr) (hea : e ≠ a) (hia : a ≠ it) :
    Turn P w K (.Tuple elts kk tpos) (IteT K a) [e, it] e (fun i h => (∃ old, IsEnum h e it ((i : Nat) : Int) old) ∧ h.IsTupleIter it a i ∧ e ≠ it) where
  mem := List.mem_cons_self
  obj := fun i h st b hb => by
    obtain ⟨⟨old, he⟩, ⟨o, ho, hc, hd⟩, _⟩ := st
    rcases (show b = e ∨ b = it by simpa using hb) with z | z
    · rw [z]
      exact ⟨_, he, fun v q => nomatch q⟩
    · rw [z]
      exact ⟨o, ho, fun v q => by rw [hd] at q; cases q⟩
  keep := fun i h h' st k => ⟨let ⟨old, he⟩ := st.1; ⟨old, k e List.mem_cons_self _ he⟩, st.2.1.at fun o q => k it (by simp) o q, st.2.2⟩
  item := by
    intro X hP hw hK hc i pins s σ H E I hf st hg
    subst hP hw hK
    obtain ⟨⟨old, he⟩, hit, hne⟩ := st
    obtain ⟨xs, x, hq, hx⟩ := hg
    obtain ⟨its, rv, p, hz⟩ := I.tuple hq
    obtain ⟨u, hu, ru⟩ := rv.get hx
    have hel : e < s.heap.objs.size := Heap.lt_size he
    have hil : it < s.heap.objs.size := by
      obtain ⟨_, q, _⟩ := hit
      exact Heap.lt_size q
    have hlt : i < its.toArray.size := by
      have := (List.getElem?_eq_some_iff.mp hu).1
      simpa using this
    refine wpAny_pyNext_enum_itemD (Draws.tuple (show X.A.in1.handled = none from I.ok.hd hc) it a hia its.toArray) he ⟨hit, p⟩ hlt hne (by simp [hne, hea]) fun y h' tk hy ho st' hT hsz hk => ?_
    have ey : y = u := by
      have e1 : its.toArray[i]? = some y := hy
      have e2 : its.toArray[i]? = some u := by simpa using hu
      rw [e2] at e1
      exact (Option.some.inj e1).symm
    subst ey
    refine ⟨_, rfl, wpAny_letOwnedTupleGo_enum (s := { s with heap := h', toks := tk + 1 }) ho fun h'' he' sb => ?_⟩
    have hT2 : h''.get? s.heap.objs.size = some { cls := .type "tuple", data := .seq #[.int i tk, y] } := (sb.2 _ (Nat.ne_of_gt hel)).trans hT
    have new : ObjOk X.prog X.w (upd H s.heap.objs.size (.tup [.int (i : Nat), x])) h'' s.heap.objs.size (.tup [.int (i : Nat), x]) :=
      ⟨(by decide : 2 ≤ sizeLine), [.int i tk, y], .cons ⟨_, rfl⟩ (.cons ru .nil), ⟨_, hT2, rfl, _, rfl⟩⟩
    have I1 : Inv X pins σ (upd H s.heap.objs.size (.tup [.int (i : Nat), x])) { s with heap := h'', toks := tk + 1 } :=
      I.turnedNew (ch := [e, it]) (fun b ob hb q => (sb.2 b (fun z => hb (by rw [z]; exact List.mem_cons_self))).trans (hk b ob (fun z => hb (by rw [z]; exact List.mem_cons_self)) (fun z => hb (by rw [z]; simp)) q)) hf (Nat.le_refl _) new
    refine ⟨.ref s.heap.objs.size, _, I1, rfl, ⟨_, x, rfl, I.hok.fresh (Nat.le_refl _), rfl, fun ys hy => by rw [I.tuple_inj hy hq]; exact hx⟩, ⟨⟨y, ?_⟩, st'.1.at fun o q => (sb.2 it (Ne.symm hne)).trans q, hne⟩, fun b hb => ?_⟩
    · rw [show ((i + 1 : Nat) : Int) = (i : Int) + 1 by omega]; exact he'
    · have hb' : b < s.heap.objs.size := by
        rcases (show b = e ∨ b = it by simpa using hb) with z | z <;> rw [z] <;> assumption
      rw [upd_ne (Nat.ne_of_lt hb')]
      exact (hf b hb).1
  done := by
    intro X hP hw hK hc i pins s σ H E I hf st hg
    subst hP hw hK
    obtain ⟨⟨old, he⟩, hit, hne⟩ := st
    obtain ⟨xs, hq, hx⟩ := hg
    obtain ⟨its, rv, p, hz⟩ := I.tuple hq
    obtain ⟨f0, f1, f2, f3, f4, f5⟩ := hf it (by simp)
    have hT : s.TypeIs (.ref e) "enumerate" := ⟨_, he, rfl⟩
    have hnone : its.toArray[i]? = none := by
      have := rv.length
      simp
      omega
    unfold pyNext
    refine wpAny_bind (wpAny_attempt (wpAny_callSpecial?_slot (name := Str.ofString "__next__") hT F.slot_enumerate_next (wpAny_call_entry F.slot_enumerate_next hT F.entry_enumerate_next ?_ (F.args_enumerate_next_1 _))))
    show wpAny _ _ (field (.ref e) 2 >>= _) _ _ _
    refine wpAny_bind (wpAny_field he rfl (x := .ref it) rfl ?_)
    refine wpAny_bind (wpAny_nextOf_tuple_end (show X.A.in1.handled = none from I.ok.hd hc) hit p hnone fun h' x he' hx' => ?_)
    obtain ⟨o, ho, hcl⟩ := hx'
    refine wpAny_bind (wpAny_isInstance (T := "StopIteration") (b := true) ⟨o, ho, hcl⟩ isSubtype_stop ?_)
    exact wpAny_pure ⟨rfl, I.turned (t' := s.toks) (fun b o hb q => he' b o hb q) f0 f1 f3 f4 f5⟩
  self := fun A i s Q E st h => let ⟨⟨_, he⟩, _⟩ := st; wpAny_pyIter_enum he h
end
end PI
set_option Elab.async false
set_option linter.all false
set_option maxRecDepth 100000
set_option maxHeartbeats 4000000
/-! PI, part O: enumerate, zip, range as iterables. -/
namespace PI
open PySem PySem.Spec PyProof.Rows L2
/-- enumerate(v) of anything that begins a walk -/
theorem enum_new {v : Value} {o : Obj} {Ho : Heap → Prop} (B : Begins v o Ho) :
    Meets (Builtin.«enumerate.__new__» ⟨[.type "enumerate", v], []⟩) (fun _ R s => Ho s.heap ∧ R (.ok (.ret (.ref (s.heap.push o).objs.size))) { s with heap := (s.heap.push o).push { cls := .type "enumerate", data := .fields #[.none, .bool false, .ref s.heap.objs.size, rawInt 0, .none, .none] } }) :=
  .of_wp fun prog w A R s h => by
    obtain ⟨hp, g, dr, tk, os⟩ := s
    obtain ⟨hb, hr⟩ := h
    have hsub := sub_enumerate
    have go : ∀ {A' : Around} {E : Value → Shared → Prop} {Q : Value → Shared → Prop}, Q (.ref hp.objs.size) ⟨hp.push o, g, dr, tk, os⟩ → wpAny (model prog w) A' (pyIter v) Q E ⟨hp, g, dr, tk, os⟩ := fun q => B.iter prog w _ _ ⟨hp, g, dr, tk, os⟩ _ hb q
    wp_walk using go
    refine wpAny_stack_any fun st => wpAny_pure ?_
    split
    · rename_i c _ _ _ _ _
      cases (c == Value.type "enumerate") <;> (wp_walk using go; exact ⟨_, rfl, hr⟩)
    · wp_walk using go
      exact ⟨_, rfl, hr⟩
theorem call_enum {prog : Program} {w : World} {A : Around} {E : Value → Shared → Prop} {s : Shared} {v : Value} {o : Obj} {Ho : Heap → Prop} {Q : Value → Shared → Prop} (B : Begins v o Ho) (hb : Ho s.heap)
    (k : ∀ h', IsEnum h' (s.heap.objs.size + 1) s.heap.objs.size 0 .none → h'.get? s.heap.objs.size = some o → (∀ b u, s.heap.get? b = some u → h'.get? b = some u) → Q (.ref (s.heap.objs.size + 1)) { s with heap := h' }) :
    wpAny (model prog w) A (call (.type "enumerate") [v]) Q E s := by
  refine callType_new F.called_enumerate (by decide) (F.typeCall_enumerate_1 _) (F.newCall_enumerate_1 _) (fun obj => F.args_object_init_2 obj _) F.entry_enumerate_new (enum_new B) ⟨hb, ?_⟩
  have sz : (s.heap.push o).objs.size = s.heap.objs.size + 1 := Heap.size_push ..
  show _ ∧ _
  rw [sz]
  have he : IsEnum ((s.heap.push o).push { cls := .type "enumerate", data := .fields #[.none, .bool false, .ref s.heap.objs.size, rawInt 0, .none, .none] }) (s.heap.objs.size + 1) s.heap.objs.size 0 .none := by
    have q := Heap.get?_push_size (s.heap.push o) (o := { cls := .type "enumerate", data := .fields #[.none, .bool false, .ref s.heap.objs.size, rawInt 0, .none, .none] }) rfl
    rw [sz] at q
    exact q
  exact ⟨⟨_, he, rfl⟩, k _ he (Heap.get?_push_of_some _ (Heap.get?_push_size _ B.free)) fun b u x => Heap.get?_push_of_some _ (Heap.get?_push_of_some _ x)⟩
/-! ### arguments without stars -/
theorem star_cons {e : Expr} (h : isStar e = false) (es : List Expr) (env : PySem.Env) : starEach (e :: es) env = (false, eval e env) :: starEach es env := by
  cases e <;> first | rfl | exact absurd h (by simp [isStar])
theorem any_star {e : Expr} {es : List Expr} (h : (e :: es).any isStar = false) : isStar e = false ∧ es.any isStar = false := by
  rw [List.any_cons] at h
  exact Bool.or_eq_false_iff.mp h
theorem star_flags : ∀ {es : List Expr} (env : PySem.Env), es.any isStar = false → ∀ t ∈ starEach es env, t.1 = false
  | [], _, _, t, ht => by simp [starEach] at ht
  | e :: es, env, h, t, ht => by
    obtain ⟨h1, h2⟩ := any_star h
    rw [star_cons h1] at ht
    rcases List.mem_cons.mp ht with rfl | ht
    · rfl
    · exact star_flags env h2 t ht
theorem back_any {es : List Expr} {env : PySem.Env} (pos : Pos) (h : es.any isStar = false) : (backTo pos (starEach es env)).any (·.1) = false := by
  unfold backTo
  rw [List.any_map, List.any_eq_false]
  intro t ht
  simp [star_flags env h t ht]
theorem back_all {es : List Expr} {env : PySem.Env} (pos : Pos) (h : es.any isStar = false) : (backTo pos (starEach es env)).all (fun x => !x.1) = true := by
  unfold backTo
  rw [List.all_map, List.all_eq_true]
  intro t ht
  simp [star_flags env h t ht]
section
variable {X : Cx} {W : WS} {σ : L2.St} {H : Hp} {R : L2.It → Hp → Prop} {a b c : Expr} {ta : TA} {xa : Env → M (List D)} {p pos tpos : Pos} {elts : List Expr} {kk : Nat}
def iEnumA (K : PySem.W.Frag) (ta : TA) : TI := fun σ H R => ta σ H fun vs H1 => ∃ a, vs = [.ref a] ∧ (((∃ xs, SqL K H1 a xs) ∧ R (Ite K a) H1) ∨ ((∃ xs, SqT K H1 a xs) ∧ R (IteT K a) H1))
theorem pi_enumA (hg : Gl X "enumerate") (hm : X.mg "enumerate" = none) (ha : PA X [a] ta) (hs : isStar a = false) : PI X (.Tuple elts kk tpos) (.Call (.Name "enumerate" p) [a] [] pos) (iEnumA X.K ta) := by
  refine ⟨fun pins s σ H R I h => ?_⟩
  refine Call_ (ld_blt I hg hm boot_enumerate (PyProof.Rows.callWith_type1 (thn (ha.run pos pins s σ H _ I h) fun us s1 hv => ?_) (star_cons hs [] X.env) rfl))
  obtain ⟨vs, H1, I1, rv, l, rfl, hq⟩ := hv
  obtain ⟨u, rfl, ru⟩ := vals1 rv
  obtain rfl : u = Value.ref l := ru
  have fp : ∀ b ∈ [s1.heap.objs.size + 1, s1.heap.objs.size], FpOk X pins H1 b := fun b hb => by
    have hle : s1.heap.objs.size ≤ b := by
      rcases List.mem_cons.mp hb with z | z
      · omega
      · rw [List.mem_singleton.mp z]; exact Nat.le_refl _
    exact I1.fpOk hle (I1.hok.fresh hle)
  rcases hq with ⟨⟨xs, hs⟩, q⟩ | ⟨⟨xs, hs⟩, q⟩
  · obtain ⟨its, _, pl, _⟩ := I1.list hs
    refine call_enum (begins_list l its.toArray) pl.isList fun h' he ho keep => wpAny_pyIter_enum he ?_
    exact ⟨_, _, _, _, H1, rfl, I1.kept (t' := s1.toks) keep, turn_enum l (s1.heap.objs.size + 1) s1.heap.objs.size, ⟨⟨.none, he⟩, ⟨_, ho, rfl, rfl⟩, Nat.succ_ne_self _⟩, fp, q⟩
  · obtain ⟨its, _, pl, _⟩ := I1.tuple hs
    have lt : l < s1.heap.objs.size := by
      obtain ⟨o, ho, _⟩ := id pl
      exact Heap.lt_size ho
    refine call_enum (begins_tuple l its.toArray) pl fun h' he ho keep => wpAny_pyIter_enum he ?_
    exact ⟨_, _, _, _, H1, rfl, I1.kept (t' := s1.toks) keep, turn_enumT l (s1.heap.objs.size + 1) s1.heap.objs.size (Nat.ne_of_gt (Nat.lt_succ_of_lt lt)) (Nat.ne_of_lt lt), ⟨⟨.none, he⟩, ⟨_, ho, rfl, rfl⟩, Nat.succ_ne_self _⟩, fp, q⟩
theorem tI_enum {xa : Env → M D} (h : tI X (fun ρ => do let d ← xa ρ; let s ← srcOf d; M.pure ⟨s.w, numbered 0 s.items, true⟩) W σ H R) : iEnumA X.K (tCons (tE X.w X.K xa W) tNil) σ H R := by
  obtain ⟨ρ, st, mu, E, S, h⟩ := h
  refine ⟨ρ, st, mu, E, S, run_mono (run_bind h) fun d st1 mu1 H1 x S1 q v hv => ?_⟩
  obtain ⟨a, src, rfl, q, ⟨h1, L, _⟩ | ⟨h1, L, _⟩⟩ := run_srcOf hv S1 (run_bind q)
  · exact ⟨a, rfl, .inl ⟨h1, run_pure q S1 _ (srcE L)⟩⟩
  · exact ⟨a, rfl, .inr ⟨h1, run_pure q S1 _ (srcET L)⟩⟩
theorem tI_zip {xa xb : Env → M D} (h : tI X (fun ρ => do
    let x ← xa ρ
    let y ← xb ρ
    let s ← srcOf x
    let t ← srcOf y
    if s.isL = t.isL then M.pure ⟨s.w ++ t.w, zipD s.items t.items, true⟩ else mbad) W σ H R) : RZ.iZipA X.K (tCons (tE X.w X.K xa W) (tCons (tE X.w X.K xb W) tNil)) σ H R := by
  obtain ⟨ρ, st, mu, E, S, h⟩ := h
  refine ⟨ρ, st, mu, E, S, run_mono (run_bind h) fun d st1 mu1 H1 x S1 q v hv => ⟨ρ, st1, mu1, E.ext x, S1, run_mono (run_bind q) fun e st2 mu2 H2 x2 S2 q u hu => ?_⟩⟩
  obtain ⟨a, s, ea, q, ks⟩ := run_srcOf (hv.ext x2) S2 (run_bind q)
  obtain ⟨b, t, eb, q, kt⟩ := run_srcOf hu S2 (run_bind q)
  subst ea eb
  rcases if_cases (c := s.isL = t.isL) (a := (M.pure ⟨s.w ++ t.w, zipD s.items t.items, true⟩ : M Src)) (b := mbad) (st := st2) with ⟨c, z⟩ | ⟨c, z⟩
  · rw [z] at q
    have qq := run_pure q S2
    rcases ks with ⟨⟨xs, h1⟩, L1, g1⟩ | ⟨⟨xs, h1⟩, L1, g1⟩
    · rcases kt with ⟨⟨ys, h2⟩, L2, g2⟩ | ⟨⟨ys, h2⟩, L2, g2⟩
      · exact ⟨a, b, xs, ys, rfl, .inl ⟨h1, h2, qq _ (srcZ L1 L2)⟩⟩
      · rw [g1, g2] at c; cases c
    · rcases kt with ⟨⟨ys, h2⟩, L2, g2⟩ | ⟨⟨ys, h2⟩, L2, g2⟩
      · rw [g1, g2] at c; cases c
      · exact ⟨a, b, xs, ys, rfl, .inr ⟨h1, h2, qq _ (srcZT L1 L2)⟩⟩
  · rw [z] at q; exact q.elim
/-- range by the interpreter -/
theorem tI_rng {xl : Env → M (List D)} (h : tI X (fun ρ => do let l ← xl ρ; rangeSrc l) W σ H R) : tA X.w X.K xl W σ H fun vs H1 => (∃ j : Int, vs = [.int j] ∧ -(2 ^ 62) ≤ j ∧ j < 2 ^ 62 ∧ R (Itr 0 j.toNat) H1) ∨ (∃ i j : Int, vs = [.int i, .int j] ∧ (-(2 ^ 62) ≤ i ∧ i < 2 ^ 62 ∧ -(2 ^ 62) ≤ j ∧ j < 2 ^ 62) ∧ R (Itr i (j - i).toNat) H1) ∨ (∃ (i j c : Int) (n : Nat), vs = [.int i, .int j, .int c] ∧ RgC i j c n ∧ R (Itc i c n) H1) := by
  obtain ⟨ρ, st, mu, E, S, h⟩ := h
  refine ⟨ρ, st, mu, E, S, run_mono (run_bind h) fun l st1 mu1 H1 x S1 q vs hv => ?_⟩
  match l, hv, q with
  | [], _, q => exact q.elim
  | [d], hv, q =>
    obtain ⟨v, rfl, hd⟩ := dens1 hv
    cases hd with
    | int j =>
      rcases if_cases (c := -(2 ^ 62) ≤ j ∧ j < 2 ^ 62) (a := (M.pure ⟨[], intsD 0 j.toNat, true⟩ : M Src)) (b := mbad) (st := st1) with ⟨c, z⟩ | ⟨c, z⟩
      · have q' : run X.w X.K ((if -(2 ^ 62) ≤ j ∧ j < 2 ^ 62 then (M.pure ⟨[], intsD 0 j.toNat, true⟩ : M Src) else mbad) st1) mu1 H1 (W σ) _ := q
        rw [z] at q'
        exact .inl ⟨j, rfl, c.1, c.2, run_pure q' S1 _ (srcRng 0 _)⟩
      · have q' : run X.w X.K ((if -(2 ^ 62) ≤ j ∧ j < 2 ^ 62 then (M.pure ⟨[], intsD 0 j.toNat, true⟩ : M Src) else mbad) st1) mu1 H1 (W σ) _ := q
        rw [z] at q'
        exact q'.elim
    | _ => exact q.elim
  | [d, e], hv, q =>
    obtain ⟨v, u, rfl, hd, he⟩ := dens2 hv
    cases hd with
    | int i => cases he with
      | int j =>
        have q' : run X.w X.K ((if -(2 ^ 62) ≤ i ∧ i < 2 ^ 62 ∧ -(2 ^ 62) ≤ j ∧ j < 2 ^ 62 then (M.pure ⟨[], intsD i (j - i).toNat, true⟩ : M Src) else mbad) st1) mu1 H1 (W σ) _ := q
        rcases if_cases (c := -(2 ^ 62) ≤ i ∧ i < 2 ^ 62 ∧ -(2 ^ 62) ≤ j ∧ j < 2 ^ 62) (a := (M.pure ⟨[], intsD i (j - i).toNat, true⟩ : M Src)) (b := mbad) (st := st1) with ⟨c, z⟩ | ⟨c, z⟩
        · rw [z] at q'
          exact .inr (.inl ⟨i, j, rfl, c, run_pure q' S1 _ (srcRng i _)⟩)
        · rw [z] at q'
          exact q'.elim
      | _ => exact q.elim
    | _ => cases he <;> exact q.elim
  | [d, e, f], hv, q =>
    cases hv with
    | cons hd hv =>
      obtain ⟨v, u, rfl, he, hf⟩ := dens2 hv
      cases hd with
      | int i => cases he with
        | int j => cases hf with
          | int c =>
            have q' : run X.w X.K ((match range3 i j c with
              | some l => (M.pure ⟨[], l, true⟩ : M Src)
              | none => mbad) st1) mu1 H1 (W σ) _ := q
            unfold range3 at q'
            by_cases g : c ≠ 0 ∧ c.natAbs < 1073741824 ∧ Builtin.Range.small i j c = true ∧ Builtin.Range.rangeSize i j c = ((Builtin.Range.rangeSize i j c).toNat : Int)
            · rw [if_pos g] at q'
              exact .inr (.inr ⟨i, j, c, _, rfl, ⟨g.1, g.2.1, g.2.2.1, g.2.2.2⟩, run_pure q' S1 _ (srcRg3 i c _)⟩)
            · rw [if_neg g] at q'
              exact q'.elim
          | _ => exact q.elim
        | _ => cases hf <;> exact q.elim
      | _ => cases he <;> cases hf <;> exact q.elim
  | a :: b :: c :: d :: l, hv, q => cases a <;> cases b <;> cases c <;> exact q.elim
end
end PI
set_option Elab.async false
set_option linter.all false
set_option maxRecDepth 100000
set_option maxHeartbeats 4000000
/-! PI, part P: comprehensions, for, by the interpreter. -/
namespace PI
open PySem PySem.Spec PyProof.Rows L2
/-! ### targets -/
theorem wipe_set (σ : L2.St) (i : Nat) (x : Option V) : ∀ vs : List Nat, (L2.wipe (σ.set i x) vs).set i none = (L2.wipe σ vs).set i none
  | [] => List.set_set ..
  | v :: vs => by
    show ((L2.wipe (σ.set i x) vs).set v none).set i none = ((L2.wipe σ vs).set v none).set i none
    by_cases e : v = i
    · subst e
      rw [List.set_set, List.set_set, wipe_set σ v x vs]
    · rw [List.set_comm _ _ e, List.set_comm _ _ e, wipe_set σ i x vs]
theorem wipe_in (σ : L2.St) (i : Nat) (x : Option V) : ∀ vs : List Nat, i ∈ vs → L2.wipe (σ.set i x) vs = L2.wipe σ vs
  | v :: vs, h => by
    show (L2.wipe (σ.set i x) vs).set v none = (L2.wipe σ vs).set v none
    by_cases e : v = i
    · subst e
      exact wipe_set σ v x vs
    · rcases List.mem_cons.mp h with z | z
      · exact absurd z.symm e
      · rw [wipe_in σ i x vs z]
/-- a target's reading by the interpreter -/
def gD (X : Cx) (t : T) : TG := fun v σ H Q => ∃ ρ st mu d ρ', REs X.w X.K mu H ρ σ ∧ RSt X.w X.K mu H st ∧ Den X.w X.K mu H v d ∧ bindT t d ρ = some ρ' ∧
  ∀ σ', REs X.w X.K mu H ρ' σ' → (∀ vs, (∀ i ∈ tgSlots t, i ∈ vs) → L2.wipe σ' vs = L2.wipe σ vs) → Q σ' H
def gDs (X : Cx) (ts : Ts) : TGs := fun vs σ H Q => ∃ ρ st mu l ρ', REs X.w X.K mu H ρ σ ∧ RSt X.w X.K mu H st ∧ Dens X.w X.K mu H vs l ∧ bindTs ts l ρ = some ρ' ∧
  ∀ σ', REs X.w X.K mu H ρ' σ' → (∀ ws, (∀ i ∈ tgsSlots ts, i ∈ ws) → L2.wipe σ' ws = L2.wipe σ ws) → Q σ' H
/-- what may be assigned in a context -/
def AsgOk (X : Cx) (sc : Scope) : Prop := ∀ x, isLoc sc x = true → Loc X.env.scope x ∧ (X.fn x = true ∨ X.env.scope.names.lookup x = some .local)
theorem slot_get {N : List Str} {x : Str} {i : Nat} (h : slot N x = some i) : N[i]? = some x := by
  unfold slot at h
  obtain ⟨h1, h2, _⟩ := List.findIdx?_eq_some_iff_getElem.mp h
  rw [List.getElem?_eq_getElem h1]
  exact congrArg some (of_decide_eq_true h2)
def tsLen : Ts → Nat
  | .nil => 0
  | .cons _ r => tsLen r + 1
theorem bindTs_len : ∀ {ts : Ts} {l : List D} {ρ ρ' : Env}, bindTs ts l ρ = some ρ' → l.length = tsLen ts
  | .nil, [], _, _, _ => rfl
  | .nil, _ :: _, _, _, h => by cases h
  | .cons _ _, [], _, _, h => by cases h
  | .cons t r, d :: l, ρ, ρ', h => by
    unfold bindTs at h
    cases e : bindT t d ρ with
    | none => rw [e] at h; cases h
    | some ρ1 =>
      rw [e] at h
      exact congrArg Nat.succ (bindTs_len h)
theorem tsOf_len {c : Tc} {sc : Scope} : ∀ {n : Nat} {xs : List Expr} {ts : Ts}, tsOf c sc n xs = some ts → tsLen ts = xs.length
  | 0, _, _, h => by cases h
  | n + 1, [], ts, h => by
    have e : some Ts.nil = some ts := h
    cases e
    rfl
  | n + 1, x :: r, ts, h => by
    have e : (match tOf c sc n x, tsOf c sc n r with
      | some t, some ts => some (Ts.cons t ts)
      | _, _ => none) = some ts := h
    cases e1 : tOf c sc n x with
    | none => rw [e1] at e; cases e
    | some t => cases e2 : tsOf c sc n r with
      | none => rw [e1, e2] at e; cases e
      | some ts' =>
        rw [e1, e2] at e
        cases e
        exact congrArg Nat.succ (tsOf_len e2)
section
variable {c : Tc} {X : Cx} {sc : Scope}
theorem pgD (hN : X.N = c.N) (nd : c.N.Nodup) (hc : X.calm = true) (ok : AsgOk X sc) : ∀ n, (∀ x t, tOf c sc n x = some t → PG X x (gD X t) ∧ (assignEach [x] X.env).map (·.2) = [assign x X.env] ∧ (assignEach [x] X.env).findIdx? (·.1) = none) ∧
    (∀ xs ts, tsOf c sc n xs = some ts → PGs X xs (gDs X ts) ∧ (assignEach xs X.env).findIdx? (·.1) = none ∧ (assignEach xs X.env).length = xs.length) := by
  intro n
  induction n with
  | zero => exact ⟨fun x t h => (nomatch h), fun xs ts h => (nomatch h)⟩
  | succ n ih =>
    obtain ⟨ih1, ih2⟩ := ih
    refine ⟨fun x t h => ?_, fun xs ts h => ?_⟩
    · unfold tOf at h
      split at h
      · rename_i id p
        split at h
        · rename_i g
          cases e : slot c.N id with
          | none => rw [e] at h; cases h
          | some i =>
            rw [e] at h
            cases h
            obtain ⟨l1, l2⟩ := ok id g.2
            refine ⟨⟨fun pins s σ H v u Q I r hw => ?_⟩, rfl, rfl⟩
            obtain ⟨ρ, st, mu, d, ρ', E, S, hd, hb, k⟩ := hw
            have hb' : some (ρ.set i (some d)) = some ρ' := hb
            cases hb'
            refine (pg_name (by rw [hN]; exact nd) (by rw [hN]; exact slot_get e) l1 l2).run pins s σ H v u Q I r (k _ (E.set hd) fun vs hv => ?_)
            exact wipe_in σ i _ vs (hv i (by simp [tgSlots]))
        · cases h
      · rename_i es k p
        cases e : tsOf c sc n es with
        | none => rw [e] at h; cases h
        | some ts =>
          rw [e] at h
          cases h
          obtain ⟨g1, g2, g3⟩ := ih2 es ts e
          refine ⟨⟨fun pins s σ H v u Q I r hw => ?_⟩, rfl, rfl⟩
          refine (pg_tup (n := es.length) hc g1 g3 g2).run pins s σ H v u Q I r ?_
          obtain ⟨ρ, st, mu, d, ρ', E, S, hd, hb, k⟩ := hw
          cases hd with
          | @tup a xs l h1 r1 =>
            have hb' : bindTs ts l ρ = some ρ' := hb
            exact ⟨a, xs, rfl, h1.sq, by rw [r1.length, bindTs_len hb', tsOf_len e], ρ, st, mu, l, ρ', E, S, r1, hb', k⟩
          | _ => cases hb
      · cases h
    · match xs, h with
      | [], h =>
        have e : some Ts.nil = some ts := h
        cases e
        refine ⟨⟨fun pins s σ H vs us Q I r hw => ?_⟩, rfl, rfl⟩
        obtain ⟨ρ, st, mu, l, ρ', E, S, hd, hb, k⟩ := hw
        cases hd with
        | nil =>
          have hb' : some ρ = some ρ' := hb
          cases hb'
          exact pgs_nil.run pins s σ H _ us Q I r ⟨rfl, k σ E fun _ _ => rfl⟩
        | cons _ _ => cases hb
      | x :: r, h =>
        have e : (match tOf c sc n x, tsOf c sc n r with
          | some t, some ts => some (Ts.cons t ts)
          | _, _ => none) = some ts := h
        cases e1 : tOf c sc n x with
        | none => rw [e1] at e; cases e
        | some t => cases e2 : tsOf c sc n r with
          | none => rw [e1, e2] at e; cases e
          | some ts' =>
            rw [e1, e2] at e
            cases e
            obtain ⟨g1, g2, g3⟩ := ih1 x t e1
            obtain ⟨k1, k2, k3⟩ := ih2 r ts' e2
            have ns : isStar x = false := by
              cases n with
              | zero => cases e1
              | succ n => cases x <;> first | rfl | (exact absurd e1 (by simp [tOf]))
            have ae : assignEach (x :: r) X.env = (false, assign x X.env) :: assignEach r X.env := by
              cases x <;> first | rfl | (exact absurd ns (by simp [isStar]))
            refine ⟨⟨fun pins s σ H vs us Q I rv hw => ?_⟩, by rw [ae, List.findIdx?_cons]; simp [k2], by rw [ae]; simp [k3]⟩
            refine (pgs_cons g1 k1 (by rw [ae]; rfl)).run pins s σ H vs us Q I rv ?_
            obtain ⟨ρ, st, mu, l, ρ', E, S, hd, hb, k⟩ := hw
            cases hd with
            | nil => cases hb
            | @cons v d xs l hd hr =>
              have hb' : (match bindT t d ρ with
                | some ρ1 => bindTs ts' l ρ1
                | none => none) = some ρ' := hb
              cases e3 : bindT t d ρ with
              | none => rw [e3] at hb'; cases hb'
              | some ρ1 =>
                rw [e3] at hb'
                refine ⟨v, xs, rfl, ρ, st, mu, d, ρ1, E, S, hd, e3, fun σ1 E1 w1 => ⟨ρ1, st, mu, l, ρ', E1, S, hr, hb', fun σ2 E2 w2 => k σ2 E2 fun ws hws => ?_⟩⟩
                rw [w2 ws fun i hi => hws i (by show i ∈ tgSlots t ++ tgsSlots ts'; exact List.mem_append_right _ hi), w1 ws fun i hi => hws i (by show i ∈ tgSlots t ++ tgsSlots ts'; exact List.mem_append_left _ hi)]
end
end PI
set_option Elab.async false
set_option linter.all false
set_option maxRecDepth 100000
set_option maxHeartbeats 4000000
/-! PI, part Q: comprehensions by the interpreter. -/
namespace PI
open PySem PySem.Spec PyProof.Rows L2
abbrev noW : WD := fun _ _ _ _ _ => False
section
variable {w : World} {K : PySem.W.Frag} {mu : Mu} {H : Hp} {st : Store} {W : WD}
theorem run_chk {α : Type} {s : Src} {r : Res α} {Q : α → Store → Mu → Hp → Prop} (h : run w K (if s.chk st = true then r else .bad) mu H W Q) : s.chk st = true ∧ run w K r mu H W Q := by
  by_cases c : s.chk st = true
  · rw [if_pos c] at h
    exact ⟨c, h⟩
  · rw [if_neg c] at h
    exact h.elim
theorem compL_nil {f : D → M (Option D)} {src : Src} {acc : List D} {Q : List D → Store → Mu → Hp → Prop} (h : run w K (compL f src [] acc st) mu H W Q) : src.chk st = true ∧ run w K (.ok acc st) mu H W Q := run_chk h
theorem compL_cons {f : D → M (Option D)} {src : Src} {x : D} {r acc : List D} {Q : List D → Store → Mu → Hp → Prop} (h : run w K (compL f src (x :: r) acc st) mu H W Q) : src.chk st = true ∧ run w K (f x st) mu H noW fun o st1 mu1 H1 => match o with
    | none => run w K (compL f src r acc st1) mu1 H1 W Q
    | some y => acc.length < sizeLine ∧ run w K (compL f src r (acc ++ [y]) st1) mu1 H1 W Q := by
  obtain ⟨c, h⟩ := run_chk h
  refine ⟨c, ?_⟩
  cases e : f x st with
  | ok o st1 =>
    rw [e] at h
    cases o with
    | none => exact fun mu1 H1 x R1 => run_ext h x
    | some y =>
      dsimp only at h
      split at h
      · rename_i hz
        exact fun mu1 H1 x R1 => ⟨hz, run_ext h x⟩
      · exact h.elim
  | err c as st1 => rw [e] at h; exact h.elim
  | bad => rw [e] at h; exact h
end
section
variable {X : Cx} {W W0 : WS} {σ : L2.St} {H : Hp} {Q : VK}
/-- a turn of a comprehension's body: the target, the tests, the value -/
def turnD (F : Cf) (tg : T) (c : Es) (elt : E) (ρ : Env) : D → M (Option D) := fun d => match bindT tg d ρ with
  | some ρ' => do
    let b ← evTs F c ρ'
    if b = true then do
      let y ← evE F elt ρ'
      M.pure (some y)
    else M.pure none
  | none => mbad
theorem evE_comp {F : Cf} {m : Bool} {elt : E} {vs : List Nat} {tg : T} {it : It} {c : Es} {ρ : Env} : evE F (.comp m elt vs tg it c) ρ = (do
    let src ← evIt F it ρ
    let l ← compL (turnD F tg c elt (wipeD ρ vs)) src src.items []
    newL m l) := by
  rw [evE]
  rfl
theorem wipe_at {σ : L2.St} {i : Nat} : ∀ {vs : List Nat}, i ∈ vs → i < σ.length → (L2.wipe σ vs)[i]? = some none
  | v :: vs, h, hl => by
    show ((L2.wipe σ vs).set v none)[i]? = some none
    by_cases e : v = i
    · subst e
      rw [List.getElem?_set_self (by rw [wipe_length]; exact hl)]
    · rw [List.getElem?_set_ne e]
      rcases List.mem_cons.mp h with z | z
      · exact absurd z.symm e
      · exact wipe_at z hl
theorem wipe_wipe (σ : L2.St) (vs : List Nat) : L2.wipe (L2.wipe σ vs) vs = L2.wipe σ vs := by
  refine List.ext_getElem? fun i => ?_
  by_cases h : i ∈ vs
  · by_cases hl : i < σ.length
    · rw [wipe_at h (by rw [wipe_length]; exact hl), wipe_at h hl]
    · rw [List.getElem?_eq_none (by rw [wipe_length, wipe_length]; omega), List.getElem?_eq_none (by rw [wipe_length]; omega)]
  · rw [wipe_out h]
/-- where the list that is made at D stands while the loop runs -/
def MidL (X : Cx) (W : WD) (f : D → M (Option D)) (src : Src) (Fin : List D → Store → Mu → Hp → Prop) (D : Addr) (mu0 : Mu) (H0 : Hp) (rest : List PI.D) (H : Hp) : Prop :=
  ∃ mu Hs st acc xs, H = upd Hs D (.lst xs) ∧ Hs D = none ∧ Ext mu0 H0 mu Hs ∧ RSt X.w X.K mu Hs st ∧ Dens X.w X.K mu Hs xs acc ∧ run X.w X.K (compL f src rest acc st) mu Hs W Fin
/-- one turn of the loop -/
theorem mid_turn {F : Cf} {tg : T} {c : Es} {elt : E} {ρ : Env} {src : Src} {Wd : WD} {Fin : List D → Store → Mu → Hp → Prop} {D : Addr} {mu0 mu : Mu} {H0 Hs H' : Hp} {st : Store} {acc : List PI.D} {xs : List V} {vs : List Nat} {x : PI.D} {r : List PI.D} {v : V}
    (hsub : ∀ i ∈ tgSlots tg, i ∈ vs) (E0 : REs X.w X.K mu0 H0 ρ σ) (hD : Hs D = none) (x0 : Ext mu0 H0 mu Hs) (R : RSt X.w X.K mu Hs st) (dn : Dens X.w X.K mu Hs xs acc)
    (h : run X.w X.K (turnD F tg c elt ρ x st) mu Hs noW fun o st1 mu1 H1 => match o with
      | none => run X.w X.K (compL (turnD F tg c elt ρ) src r acc st1) mu1 H1 Wd Fin
      | some y => acc.length < sizeLine ∧ run X.w X.K (compL (turnD F tg c elt ρ) src r (acc ++ [y]) st1) mu1 H1 Wd Fin)
    (xh : Ext (hide D mu) (upd Hs D (.lst xs)) (hide D mu) H') (Rh : RSt X.w X.K (hide D mu) H' st) (hv : Den X.w X.K (hide D mu) H' v x) :
    gD X tg v σ H' fun σ2 H2 => L2.wipe σ2 vs = L2.wipe σ vs ∧ tT X.w X.K (evTs F c) W0 σ2 H2 fun b H3 =>
      if b = true then tE X.w X.K (evE F elt) W0 σ2 H3 fun y H4 => ∃ acc', H4 D = some (.lst acc') ∧ acc'.length < sizeLine ∧ MidL X Wd (turnD F tg c elt ρ) src Fin D mu0 H0 r (upd H4 D (.lst (acc' ++ [y])))
      else MidL X Wd (turnD F tg c elt ρ) src Fin D mu0 H0 r H3 := by
  unfold turnD at h
  cases eb : bindT tg x ρ with
  | none => rw [eb] at h; exact h.elim
  | some ρ' =>
    rw [eb] at h
    dsimp only at h
    have xin : Ext mu Hs (hide D mu) (upd Hs D (.lst xs)) := Ext.hide hD
    refine ⟨ρ, st, hide D mu, x, ρ', (E0.ext ((x0.trans xin).trans xh)), Rh, hv, eb, fun σ' E' w' => ⟨w' vs hsub, ρ', st, hide D mu, E', Rh, ?_⟩⟩
    refine run_mono (run_hide hD R (run_bind h) xh) fun b st2 mu2 H2 x2 R2 q => ?_
    obtain ⟨q1, q2, q3, q4, q⟩ := q
    cases b with
    | false =>
      simp only [Bool.false_eq_true, if_false] at q ⊢
      have q' := run_pure q q3
      exact ⟨unhide D mu2, erase D H2, st2, acc, xs, erase_upd q2, erase_same, x0.trans q4, q3, dn.ext q4, q'⟩
    | true =>
      simp only [if_true] at q ⊢
      refine ⟨ρ', st2, mu2, E'.ext x2, R2, ?_⟩
      refine run_mono (run_hide (o := .lst xs) erase_same q3 (run_bind q) (Ext.again q1 q2)) fun y st3 mu3 H3 x3 R3 qq u hu => ?_
      obtain ⟨p1, p2, p3, p4, p⟩ := qq
      obtain ⟨hz, p'⟩ := run_pure p p3
      have dn2 := (dn.ext q4).ext p4
      refine ⟨xs, p2, by rw [dn.length]; exact hz, unhide D mu3, erase D H3, st3, acc ++ [y], xs ++ [u], upd_erase, erase_same, (x0.trans q4).trans p4, p3, dn2.snoc (hu.erase p1), p'⟩
/-- [elt for tg in it if c] -/
theorem tE_comp {F : Cf} {m : Bool} {elt : E} {vs : List Nat} {tg : T} {it : It} {c : Es} (hsub : ∀ i ∈ tgSlots tg, i ∈ vs) (h : tE X.w X.K (evE F (.comp m elt vs tg it c)) W σ H Q) :
    tLc (tI X (evIt F it) W) (gD X tg) (tT X.w X.K (evTs F c) W0) (tE X.w X.K (evE F elt) W0) vs σ H Q := by
  obtain ⟨ρ, st, mu, E, R, h⟩ := h
  have h' : run X.w X.K ((do
    let src ← evIt F it ρ
    let l ← compL (turnD F tg c elt (wipeD ρ vs)) src src.items []
    newL m l : M D) st) mu H (W σ) (QV X.w X.K Q) := by rw [evE_comp] at h; exact h
  refine ⟨ρ, st, mu, E, R, run_mono (run_bind h') fun src st1 mu1 H1 x1 R1 q J hJ D hD => ?_⟩
  have E1 : REs X.w X.K mu1 H1 (wipeD ρ vs) (L2.wipe σ vs) := (E.ext x1).wipe vs
  refine ⟨fun i k H => k = src.items.length - i ∧ i ≤ src.items.length ∧ MidL X (W σ) (turnD F tg c elt (wipeD ρ vs)) src (fun l st mu H => run X.w X.K (newL m l st) mu H (W σ) (QV X.w X.K Q)) D mu1 H1 (src.items.drop i) H, ⟨src.items.length, by simp, Nat.zero_le _, ?_⟩, ?_⟩
  · exact ⟨mu1, H1, st1, [], [], rfl, hD, .refl, R1, .nil, run_bind q⟩
  · rintro i k H2 ⟨rfl, hi, mu2, Hs, st2, acc, xs, rfl, hs, x2, R2, dn, hr⟩
    by_cases hlt : i < src.items.length
    · rw [List.drop_eq_getElem_cons hlt] at hr
      obtain ⟨ck, hr⟩ := compL_cons hr
      obtain ⟨g1, g2⟩ := hJ.go (hide D mu2) (upd Hs D (.lst xs)) st2 i src.items[i] (x2.trans (Ext.hide hs)).w (R2.hide hs) ck (List.getElem?_eq_getElem hlt)
      refine .inr ⟨g1, MidL X (W σ) (turnD F tg c elt (wipeD ρ vs)) src (fun l st mu H => run X.w X.K (newL m l st) mu H (W σ) (QV X.w X.K Q)) D mu1 H1 (src.items.drop (i + 1)), fun H' hm => ⟨_, by omega, rfl, hlt, hm⟩, fun v H' hy => ?_⟩
      obtain ⟨y1, y2, y3⟩ := g2 v H' hy
      have t := mid_turn (σ := L2.wipe σ vs) (W0 := W0) hsub E1 hs x2 R2 dn hr y1 y2 y3
      have ww : L2.wipe (L2.wipe σ vs) vs = L2.wipe σ vs := wipe_wipe σ vs
      rw [ww] at t
      exact t
    · have e : i = src.items.length := by omega
      subst e
      rw [List.drop_length] at hr
      obtain ⟨ck, hr⟩ := compL_nil hr
      refine .inl ⟨hJ.stop (hide D mu2) (upd Hs D (.lst xs)) st2 (x2.trans (Ext.hide hs)).w (R2.hide hs) ck, ?_⟩
      exact (run_newL (run_ok hr R2) R2 dn).2 D hs
end
end PI
set_option Elab.async false
set_option linter.all false
set_option maxRecDepth 100000
set_option maxHeartbeats 4000000
/-! PI, part R: comprehensions with two fors; for. -/
namespace PI
open PySem PySem.Spec PyProof.Rows L2
section
variable {w : World} {K : PySem.W.Frag} {mu mu' : Mu} {H H' Hs : Hp} {st : Store} {W : WD} {D : Addr}
theorem compL2_nil {f : PI.D → List PI.D → M (List PI.D)} {src : Src} {acc : List PI.D} {Q : List PI.D → Store → Mu → Hp → Prop} (h : run w K (compL2 f src [] acc st) mu H W Q) : src.chk st = true ∧ run w K (.ok acc st) mu H W Q := run_chk h
theorem compL2_cons {f : PI.D → List PI.D → M (List PI.D)} {src : Src} {x : PI.D} {r acc : List PI.D} {Q : List PI.D → Store → Mu → Hp → Prop} (h : run w K (compL2 f src (x :: r) acc st) mu H W Q) : src.chk st = true ∧ run w K (f x acc st) mu H noW fun acc' st1 mu1 H1 => run w K (compL2 f src r acc' st1) mu1 H1 W Q := by
  obtain ⟨c, h⟩ := run_chk h
  refine ⟨c, ?_⟩
  cases e : f x acc st with
  | ok o st1 =>
    rw [e] at h
    exact fun mu1 H1 x R1 => run_ext h x
  | err c as st1 => rw [e] at h; exact h.elim
  | bad => rw [e] at h; exact h
/-- hidden again at another's content -/
theorem ExtW.rehide {o : HO} {st' : Store} (h1 : D ∈ mu.hid) (hs : Hs D = none) (R : RSt w K mu' Hs st') (x : Ext (unhide D mu) (erase D H) mu' Hs) : ExtW mu H (hide D mu') (upd Hs D o) := by
  have np : D ∉ mu'.pl := (R.fresh hs).1
  have eqn : ∀ a, a ≠ D → erase D H a = H a := fun a h => erase_ne h
  refine ⟨?_, fun a h => ?_, fun a h => ?_, fun a u e n => ?_, fun a u e => ?_⟩
  · obtain ⟨r, e, hr⟩ := x.w.pre
    refine ⟨r, e, fun a ha => ?_⟩
    have na : a ≠ D := fun z => np (by rw [e, ← z]; exact List.mem_append_right _ ha)
    rw [← eqn a na]
    exact hr a ha
  · by_cases e : a = D
    · rw [e]; exact List.mem_cons_self
    · exact List.mem_cons_of_mem _ (x.w.old a (List.mem_filter.mpr ⟨h, decide_eq_true e⟩))
  · rcases List.mem_cons.mp (show a ∈ D :: mu'.hid from h) with rfl | h
    · exact .inl h1
    · rcases x.w.new a h with g | g
      · exact .inl (List.mem_filter.mp g).1
      · by_cases e : a = D
        · rw [e]; exact .inl h1
        · rw [eqn a e] at g; exact .inr g
  · have na := no_ne n h1
    rw [upd_ne na]
    exact x.w.keep a u (by rw [eqn a na]; exact e) (unhide_no n)
  · by_cases na : a = D
    · subst na; exact ⟨o, upd_same⟩
    · obtain ⟨u', e'⟩ := x.w.there a u (by rw [eqn a na]; exact e)
      exact ⟨u', by rw [upd_ne na]; exact e'⟩
end
section
variable {X : Cx} {W W0 : WS} {σ : L2.St} {H : Hp} {Q : VK}
/-- a turn of the outer for -/
def turn2 (F : Cf) (tg : T) (c : Es) (it1 : It) (tg1 : T) (c1 : Es) (elt : E) (vs1 : List Nat) (ρ : Env) : D → List D → M (List D) := fun d acc => match bindT tg d ρ with
  | some ρ' => do
    let b ← evTs F c ρ'
    if b = true then do
      let src1 ← evIt F it1 ρ'
      compL (turnD F tg1 c1 elt (wipeD ρ' vs1)) src1 src1.items acc
    else M.pure acc
  | none => mbad
theorem evE_comp2 {F : Cf} {m : Bool} {elt : E} {vs vs1 : List Nat} {tg tg1 : T} {it it1 : It} {c c1 : Es} {ρ : Env} : evE F (.comp2 m elt vs vs1 tg it c tg1 it1 c1) ρ = (do
    let src ← evIt F it ρ
    let l ← compL2 (turn2 F tg c it1 tg1 c1 elt vs1 (wipeD ρ vs)) src src.items []
    newL m l) := by
  rw [evE]
  rfl
def Mid2 (X : Cx) (W : WD) (f : D → List D → M (List D)) (src : Src) (Fin : List D → Store → Mu → Hp → Prop) (D : Addr) (mu0 : Mu) (H0 : Hp) (rest : List PI.D) (H : Hp) : Prop :=
  ∃ mu Hs st acc xs, H = upd Hs D (.lst xs) ∧ Hs D = none ∧ Ext mu0 H0 mu Hs ∧ RSt X.w X.K mu Hs st ∧ Dens X.w X.K mu Hs xs acc ∧ run X.w X.K (compL2 f src rest acc st) mu Hs W Fin
/-- the loop over one source, from where the list under way stands -/
theorem mid_loop {F : Cf} {tg : T} {c : Es} {elt : E} {ρ : Env} {src : Src} {Wd : WD} {Fin : List D → Store → Mu → Hp → Prop} {D : Addr} {mu0 muJ : Mu} {H0 HJ : Hp} {vs : List Nat} {J : L2.It} {Qd : Hp → Prop}
    (hsub : ∀ i ∈ tgSlots tg, i ∈ vs) (E0 : REs X.w X.K mu0 H0 ρ (L2.wipe σ vs)) (hJ : SrcOk X muJ HJ J src) (hx : ∀ mu Hs st o, Hs D = none → RSt X.w X.K mu Hs st → Ext mu0 H0 mu Hs → ExtW muJ HJ (hide D mu) (upd Hs D o))
    (hQ : ∀ mu Hs st acc xs, Hs D = none → Ext mu0 H0 mu Hs → RSt X.w X.K mu Hs st → Dens X.w X.K mu Hs xs acc → Fin acc st mu Hs → Qd (upd Hs D (.lst xs))) (i k : Nat) (H2 : Hp)
    (hm : k = src.items.length - i ∧ i ≤ src.items.length ∧ MidL X Wd (turnD F tg c elt ρ) src Fin D mu0 H0 (src.items.drop i) H2) :
    (J.stop i H2 ∧ Qd H2) ∨ (J.go i H2 ∧ ∃ Nx : Hp → Prop, (∀ H', Nx H' → ∃ k', k' < k ∧ (k' = src.items.length - (i + 1) ∧ i + 1 ≤ src.items.length ∧ MidL X Wd (turnD F tg c elt ρ) src Fin D mu0 H0 (src.items.drop (i + 1)) H')) ∧
      ∀ v H', J.yld i H2 v H' → gD X tg v (L2.wipe σ vs) H' fun σ2 H2 => L2.wipe σ2 vs = L2.wipe σ vs ∧ tT X.w X.K (evTs F c) W0 σ2 H2 fun b H3 =>
        if b = true then tE X.w X.K (evE F elt) W0 σ2 H3 fun y H4 => ∃ acc', H4 D = some (.lst acc') ∧ acc'.length < sizeLine ∧ Nx (upd H4 D (.lst (acc' ++ [y]))) else Nx H3) := by
  obtain ⟨rfl, hi, mu2, Hs, st2, acc, xs, rfl, hs, x2, R2, dn, hr⟩ := hm
  by_cases hlt : i < src.items.length
  · rw [List.drop_eq_getElem_cons hlt] at hr
    obtain ⟨ck, hr⟩ := compL_cons hr
    obtain ⟨g1, g2⟩ := hJ.go (hide D mu2) (upd Hs D (.lst xs)) st2 i src.items[i] (hx mu2 Hs st2 _ hs R2 x2) (R2.hide hs) ck (List.getElem?_eq_getElem hlt)
    refine .inr ⟨g1, MidL X Wd (turnD F tg c elt ρ) src Fin D mu0 H0 (src.items.drop (i + 1)), fun H' hm => ⟨_, by omega, rfl, hlt, hm⟩, fun v H' hy => ?_⟩
    obtain ⟨y1, y2, y3⟩ := g2 v H' hy
    have t := mid_turn (σ := L2.wipe σ vs) (W0 := W0) hsub E0 hs x2 R2 dn hr y1 y2 y3
    rw [wipe_wipe σ vs] at t
    exact t
  · have e : i = src.items.length := by omega
    subst e
    rw [List.drop_length] at hr
    obtain ⟨ck, hr⟩ := compL_nil hr
    exact .inl ⟨hJ.stop (hide D mu2) (upd Hs D (.lst xs)) st2 (hx mu2 Hs st2 _ hs R2 x2) (R2.hide hs) ck, hQ mu2 Hs st2 acc xs hs x2 R2 dn (run_ok hr R2)⟩
/-- [elt for tg in it if c for tg1 in it1 if c1] -/
theorem tE_comp2 {F : Cf} {m : Bool} {elt : E} {vs vs1 : List Nat} {tg tg1 : T} {it it1 : It} {c c1 : Es} (hsub : ∀ i ∈ tgSlots tg, i ∈ vs) (hsub1 : ∀ i ∈ tgSlots tg1, i ∈ vs1) (h : tE X.w X.K (evE F (.comp2 m elt vs vs1 tg it c tg1 it1 c1)) W σ H Q) :
    tLc2 (tI X (evIt F it) W) (gD X tg) (tT X.w X.K (evTs F c) W0) (tI X (evIt F it1) W0) (gD X tg1) (tT X.w X.K (evTs F c1) W0) (tE X.w X.K (evE F elt) W0) vs vs1 σ H Q := by
  obtain ⟨ρ, st, mu, E, R, h⟩ := h
  rw [evE_comp2] at h
  refine ⟨ρ, st, mu, E, R, run_mono (run_bind h) fun src st1 mu1 H1 x1 R1 q J hJ D hD => ?_⟩
  have E1 : REs X.w X.K mu1 H1 (wipeD ρ vs) (L2.wipe σ vs) := (E.ext x1).wipe vs
  refine ⟨fun i k H => k = src.items.length - i ∧ i ≤ src.items.length ∧ Mid2 X (W σ) (turn2 F tg c it1 tg1 c1 elt vs1 (wipeD ρ vs)) src (fun l st mu H => run X.w X.K (newL m l st) mu H (W σ) (QV X.w X.K Q)) D mu1 H1 (src.items.drop i) H, ⟨src.items.length, by simp, Nat.zero_le _, ?_⟩, ?_⟩
  · exact ⟨mu1, H1, st1, [], [], rfl, hD, .refl, R1, .nil, run_bind q⟩
  · rintro i k H2 ⟨rfl, hi, mu2, Hs, st2, acc, xs, rfl, hs, x2, R2, dn, hr⟩
    by_cases hlt : i < src.items.length
    · rw [List.drop_eq_getElem_cons hlt] at hr
      obtain ⟨ck, hr⟩ := compL2_cons hr
      obtain ⟨g1, g2⟩ := hJ.go (hide D mu2) (upd Hs D (.lst xs)) st2 i src.items[i] (x2.trans (Ext.hide hs)).w (R2.hide hs) ck (List.getElem?_eq_getElem hlt)
      refine .inr ⟨g1, Mid2 X (W σ) (turn2 F tg c it1 tg1 c1 elt vs1 (wipeD ρ vs)) src (fun l st mu H => run X.w X.K (newL m l st) mu H (W σ) (QV X.w X.K Q)) D mu1 H1 (src.items.drop (i + 1)), fun H' hm => ⟨_, by omega, rfl, hlt, hm⟩, fun v H' hy => ?_⟩
      obtain ⟨y1, y2, y3⟩ := g2 v H' hy
      unfold turn2 at hr
      cases eb : bindT tg src.items[i] (wipeD ρ vs) with
      | none => rw [eb] at hr; exact hr.elim
      | some ρ' =>
        rw [eb] at hr
        have xin : Ext mu2 Hs (hide D mu2) (upd Hs D (.lst xs)) := Ext.hide hs
        refine ⟨wipeD ρ vs, st2, hide D mu2, _, ρ', (E1.ext ((x2.trans xin).trans y1)), y2, y3, eb, fun σ' E' w' => ⟨by rw [w' vs hsub, wipe_wipe], ρ', st2, hide D mu2, E', y2, ?_⟩⟩
        refine run_mono (run_hide hs R2 (run_bind hr) y1) fun b st3 mu3 H3 x3 R3 q => ?_
        obtain ⟨q1, q2, q3, q4, q⟩ := q
        cases b with
        | false =>
          simp only [Bool.false_eq_true, if_false] at q ⊢
          exact ⟨unhide D mu3, erase D H3, st3, acc, xs, erase_upd q2, erase_same, x2.trans q4, q3, dn.ext q4, run_pure q q3⟩
        | true =>
          simp only [if_true] at q ⊢
          refine ⟨ρ', st3, mu3, E'.ext x3, R3, ?_⟩
          refine run_mono (run_hide (o := .lst xs) erase_same q3 (run_bind q) (Ext.again q1 q2)) fun src1 st4 mu4 H4 x4 R4 qq J1 hJ1 => ?_
          obtain ⟨p1, p2, p3, p4, p⟩ := qq
          have E4 : REs X.w X.K (unhide D mu4) (erase D H4) (wipeD ρ' vs1) (L2.wipe σ' vs1) := (((E'.ext x3).ext x4).erase p1).wipe vs1
          refine ⟨fun j k H => k = src1.items.length - j ∧ j ≤ src1.items.length ∧ MidL X noW (turnD F tg1 c1 elt (wipeD ρ' vs1)) src1 (fun acc' st mu H => run X.w X.K (compL2 (turn2 F tg c it1 tg1 c1 elt vs1 (wipeD ρ vs)) src (src.items.drop (i + 1)) acc' st) mu H (W σ) fun l st mu H => run X.w X.K (newL m l st) mu H (W σ) (QV X.w X.K Q)) D (unhide D mu4) (erase D H4) (src1.items.drop j) H, ⟨src1.items.length, by simp, Nat.zero_le _, ?_⟩, fun j k H5 hm => ?_⟩
          · exact ⟨unhide D mu4, erase D H4, st4, acc, xs, erase_upd p2, erase_same, .refl, p3, (dn.ext q4).ext p4, p⟩
          · exact mid_loop hsub1 E4 hJ1 (fun mu Hs st o hs R x => ExtW.rehide p1 hs R x) (fun mu Hs st acc' xs' hs x R dn' f => ⟨mu, Hs, st, acc', xs', rfl, hs, ((x2.trans q4).trans p4).trans x, R, dn', f⟩) j k H5 hm
    · have e : i = src.items.length := by omega
      subst e
      rw [List.drop_length] at hr
      obtain ⟨ck, hr⟩ := compL2_nil hr
      refine .inl ⟨hJ.stop (hide D mu2) (upd Hs D (.lst xs)) st2 (x2.trans (Ext.hide hs)).w (R2.hide hs) ck, ?_⟩
      exact (run_newL (run_ok hr R2) R2 dn).2 D hs
end
end PI
set_option Elab.async false
set_option linter.all false
set_option maxRecDepth 100000
set_option maxHeartbeats 4000000
/-! PI, part S: statements by the interpreter. -/
namespace PI
open PySem PySem.Spec PyProof.Rows L2
section
variable {w : World} {K : PySem.W.Frag} {mu : Mu} {H : Hp} {st : Store} {W : WS} {De : Ends}
theorem srun_chk {s : Src} {r : SRes} (h : srun w K (if s.chk st = true then r else .bad) mu H W De) : s.chk st = true ∧ srun w K r mu H W De := by
  by_cases c : s.chk st = true
  · rw [if_pos c] at h
    exact ⟨c, h⟩
  · rw [if_neg c] at h
    exact h.elim
theorem forL_nil {tg : T} {body : Env → Store → SRes} {src : Src} {ρ : Env} (h : srun w K (forL tg body src [] ρ st) mu H W De) : src.chk st = true ∧ srun w K (.ok .nx ρ st) mu H W De := srun_chk h
theorem forL_cons {tg : T} {body : Env → Store → SRes} {src : Src} {x : D} {r : List D} {ρ : Env} (h : srun w K (forL tg body src (x :: r) ρ st) mu H W De) : src.chk st = true ∧ ∃ ρ', bindT tg x ρ = some ρ' ∧ srun w K ((body ρ' st).next (forL tg body src r)) mu H W De := by
  obtain ⟨c, h⟩ := srun_chk h
  refine ⟨c, ?_⟩
  cases e : bindT tg x ρ with
  | none => rw [e] at h; exact h.elim
  | some ρ' => rw [e] at h; exact ⟨ρ', rfl, h⟩
/-- on to what is wanted behind, the rest of Ends the same -/
theorem srun_nx {r : SRes} {D' : Ends} (h : srun w K r mu H W De) (k : ∀ σ' H', De.nx σ' H' → D'.nx σ' H') (kr : ∀ v H', De.rt v H' → D'.rt v H') : srun w K r mu H W D' := by
  cases r with
  | ok f ρ st => cases f with
    | nx => exact fun m2 H2 s y R E => k _ _ (h m2 H2 s y R E)
    | rt d => exact fun m2 H2 s y R E => kr _ _ (h m2 H2 s y R E)
  | err c as ρ st => exact h
  | bad => exact h
end
section
variable {X : Cx} {W : WS} {F : Cf} {De : Ends} {σ : L2.St} {H : Hp}
abbrev tSs (X : Cx) (F : Cf) (b : Ss) (W : WS) : TS := tS X.w X.K (evSs F b) W
theorem tS_for {tg : T} {it : It} {b : Ss} (h : tS X.w X.K (evS F (.for_ tg it b)) W De σ H) : tFor (tI X (evIt F it) W) (gD X tg) (tSs X F b W) De σ H := by
  obtain ⟨ρ, st, mu, E, R, h⟩ := h
  rw [evS] at h
  refine ⟨ρ, st, mu, E, R, run_mono (run_ofM h E) fun src st1 mu1 H1 x1 R1 q J hJ => ?_⟩
  refine ⟨fun i k σ' H' => k = src.items.length - i ∧ i ≤ src.items.length ∧ ∃ ρ' st' mu', REs X.w X.K mu' H' ρ' σ' ∧ RSt X.w X.K mu' H' st' ∧ Ext mu1 H1 mu' H' ∧ srun X.w X.K (forL tg (evSs F b) src (src.items.drop i) ρ' st') mu' H' W De,
    ⟨src.items.length, by simp, Nat.zero_le _, ρ, st1, mu1, E.ext x1, R1, .refl, q⟩, ?_⟩
  rintro i k σ2 H2 ⟨rfl, hi, ρ2, st2, mu2, E2, R2, x2, q2⟩
  by_cases hlt : i < src.items.length
  · rw [List.drop_eq_getElem_cons hlt] at q2
    obtain ⟨ck, ρ3, eb, q3⟩ := forL_cons q2
    obtain ⟨g1, g2⟩ := hJ.go mu2 H2 st2 i src.items[i] x2.w R2 ck (List.getElem?_eq_getElem hlt)
    refine .inr ⟨g1, fun σ' H' => ∃ ρ' st' mu', REs X.w X.K mu' H' ρ' σ' ∧ RSt X.w X.K mu' H' st' ∧ Ext mu1 H1 mu' H' ∧ srun X.w X.K (forL tg (evSs F b) src (src.items.drop (i + 1)) ρ' st') mu' H' W De, fun σ' H' hm => ⟨_, by omega, rfl, hlt, hm⟩, fun v H' hy => ?_⟩
    obtain ⟨y1, y2, y3⟩ := g2 v H' hy
    refine ⟨ρ2, st2, mu2, _, ρ3, E2.ext y1, y2, y3, eb, fun σ' E' _ => ⟨ρ3, st2, mu2, E', y2, ?_⟩⟩
    refine srun_nx (srun_next (srun_ext q3 y1)) (fun σ4 H4 hn => ?_) fun _ _ z => z
    obtain ⟨mu4, st4, x4, ρ4, R4, E4, q4⟩ := hn
    exact ⟨ρ4, st4, mu4, E4, R4, (x2.trans y1).trans x4, q4⟩
  · have e : i = src.items.length := by omega
    subst e
    rw [List.drop_length] at q2
    obtain ⟨ck, q3⟩ := forL_nil q2
    exact .inl ⟨hJ.stop mu2 H2 st2 x2.w R2 ck, q3 mu2 H2 σ2 .refl R2 E2⟩
theorem tS_while {t : E} {b : Ss} (h : tS X.w X.K (evS F (.whl t b)) W De σ H) : tWhile (tT X.w X.K (evT F t) W) (tSs X F b W) De σ H := by
  obtain ⟨ρ, st, mu, E, R, h⟩ := h
  rw [evS] at h
  refine ⟨fun k σ' H' => ∃ ρ' st' mu', REs X.w X.K mu' H' ρ' σ' ∧ RSt X.w X.K mu' H' st' ∧ srun X.w X.K (whlL (evT F t) (evSs F b) k ρ' st') mu' H' W De, ⟨turns, ρ, st, mu, E, R, h⟩, ?_⟩
  rintro k σ2 H2 ⟨ρ2, st2, mu2, E2, R2, q⟩
  cases k with
  | zero => exact q.elim
  | succ k =>
    refine ⟨ρ2, st2, mu2, E2, R2, run_mono (run_ofM q E2) fun c st3 mu3 H3 x3 R3 q3 => ?_⟩
    cases c with
    | false =>
      simp only [Bool.false_eq_true, if_false] at q3 ⊢
      exact q3 mu3 H3 σ2 .refl R3 (E2.ext x3)
    | true =>
      simp only [if_true] at q3 ⊢
      refine ⟨fun σ' H' => ∃ ρ' st' mu', REs X.w X.K mu' H' ρ' σ' ∧ RSt X.w X.K mu' H' st' ∧ srun X.w X.K (whlL (evT F t) (evSs F b) k ρ' st') mu' H' W De, fun σ' H' hm => ⟨k, Nat.lt_succ_self k, hm⟩, ρ2, st3, mu3, E2.ext x3, R3, ?_⟩
      refine srun_nx (srun_next q3) (fun σ4 H4 hn => ?_) fun _ _ z => z
      obtain ⟨mu4, st4, x4, ρ4, R4, E4, q4⟩ := hn
      exact ⟨ρ4, st4, mu4, E4, R4, q4⟩
theorem tS_if {t : E} {a b : Ss} (h : tS X.w X.K (evS F (.ife t a b)) W De σ H) : tIfS (tT X.w X.K (evT F t) W) (tSs X F a W) (tSs X F b W) De σ H := by
  obtain ⟨ρ, st, mu, E, R, h⟩ := h
  rw [evS] at h
  refine ⟨ρ, st, mu, E, R, run_mono (run_ofM h E) fun c st1 mu1 H1 x1 R1 q => ?_⟩
  cases c with
  | true => exact ⟨ρ, st1, mu1, E.ext x1, R1, q⟩
  | false => exact ⟨ρ, st1, mu1, E.ext x1, R1, q⟩
theorem tS_ret {e : E} (h : tS X.w X.K (evS F (.ret e)) W De σ H) : tRet (tE X.w X.K (evE F e) W) De σ H := by
  obtain ⟨ρ, st, mu, E, R, h⟩ := h
  rw [evS] at h
  exact ⟨ρ, st, mu, E, R, run_mono (run_ofM h E) fun d st1 mu1 H1 x1 R1 q v hv => q mu1 H1 v .refl R1 hv⟩
theorem tS_expr {e : E} (h : tS X.w X.K (evS F (.expr e)) W De σ H) : tDrop (tE X.w X.K (evE F e) W) De σ H := by
  obtain ⟨ρ, st, mu, E, R, h⟩ := h
  rw [evS] at h
  exact ⟨ρ, st, mu, E, R, run_mono (run_ofM h E) fun d st1 mu1 H1 x1 R1 q v hv => q mu1 H1 σ .refl R1 (E.ext x1)⟩
theorem tS_asg {tg : T} {e : E} (h : tS X.w X.K (evS F (.asg tg e)) W De σ H) : tAsg (tE X.w X.K (evE F e) W) (gD X tg) De σ H := by
  obtain ⟨ρ, st, mu, E, R, h⟩ := h
  rw [evS] at h
  refine ⟨ρ, st, mu, E, R, run_mono (run_ofM h E) fun d st1 mu1 H1 x1 R1 q v hv => ?_⟩
  cases eb : bindT tg d ρ with
  | none => rw [eb] at q; exact q.elim
  | some ρ' =>
    rw [eb] at q
    exact ⟨ρ, st1, mu1, d, ρ', E.ext x1, R1, hv, eb, fun σ' E' _ => q mu1 H1 σ' .refl R1 E'⟩
theorem tS_setix {a i e : E} (h : tS X.w X.K (evS F (.setix a i e)) W De σ H) : tAsg (tE X.w X.K (evE F e) W) (gSub (tE X.w X.K (evE F a) W) (tE X.w X.K (evE F i) W) (rPut X)) De σ H := by
  obtain ⟨ρ, st, mu, E, R, h⟩ := h
  rw [evS] at h
  refine ⟨ρ, st, mu, E, R, run_mono (run_ofM h E) fun d st1 mu1 H1 x1 R1 q v hv => ?_⟩
  refine ⟨ρ, st1, mu1, E.ext x1, R1, run_mono (run_ofM q (E.ext x1)) fun o st2 mu2 H2 x2 R2 q o' ho => ?_⟩
  refine ⟨ρ, st2, mu2, (E.ext x1).ext x2, R2, run_mono (run_ofM q ((E.ext x1).ext x2)) fun k st3 mu3 H3 x3 R3 q k' hk => ?_⟩
  have E3 := ((E.ext x1).ext x2).ext x3
  exact ⟨mu3, st3, o, k, d, W σ, ho.ext x3, hk, (hv.ext x2).ext x3, R3, run_mono (run_ofM q E3) fun _ st4 mu4 H4 x4 R4 q => q mu4 H4 σ .refl R4 (E3.ext x4)⟩
theorem tSs_cons {s : S} {r : Ss} (h : tSs X F (.cons s r) W De σ H) : tSeq (tS X.w X.K (evS F s) W) (tSs X F r W) De σ H := by
  obtain ⟨ρ, st, mu, E, R, h⟩ := h
  rw [evSs] at h
  refine ⟨ρ, st, mu, E, R, srun_nx (srun_next h) (fun σ' H' hn => ?_) fun _ _ z => z⟩
  obtain ⟨mu', st', x', ρ', R', E', q⟩ := hn
  exact ⟨ρ', st', mu', E', R', q⟩
theorem tSs_nil (h : tSs X F .nil W De σ H) : tNext De σ H := by
  obtain ⟨ρ, st, mu, E, R, h⟩ := h
  rw [evSs] at h
  exact h mu H σ .refl R E
/-- ints added, taken off -/
def ipD (X : Cx) (g : D → D → M D) : TIp := fun x y H Q => ∃ mu st d e W, Den X.w X.K mu H x d ∧ Den X.w X.K mu H y e ∧ RSt X.w X.K mu H st ∧ (∃ i j, d = .int i ∧ e = .int j) ∧ run X.w X.K (g d e st) mu H W (QV X.w X.K Q)
theorem tS_aug {i : Nat} {op : Op2} {e : E} (h : tS X.w X.K (evS F (.aug i op e)) W De σ H) : tAug i (tE X.w X.K (evE F e) W) (ipD X (augF op)) De σ H := by
  obtain ⟨ρ, st, mu, E, R, h⟩ := h
  rw [evS] at h
  cases e1 : ρ[i]? with
  | none => rw [e1] at h; exact h.elim
  | some o => cases o with
    | none => rw [e1] at h; exact h.elim
    | some x =>
      rw [e1] at h
      dsimp only at h
      obtain ⟨v, ev, hv⟩ := E.rel i x e1
      refine ⟨v, ev, ρ, st, mu, E, R, run_mono (run_ofM h E) fun d st1 mu1 H1 x1 R1 q u hu => ?_⟩
      cases x with
      | int a => cases d with
        | int b =>
          refine ⟨mu1, st1, _, _, W σ, hv.ext x1, hu, R1, ⟨a, b, rfl, rfl⟩, ?_⟩
          cases op with
          | add => exact run_mono (run_ofM q (E.ext x1)) fun z st2 mu2 H2 x2 R2 q z' hz => q mu2 H2 _ .refl R2 (((E.ext x1).ext x2).set hz)
          | sub => exact run_mono (run_ofM q (E.ext x1)) fun z st2 mu2 H2 x2 R2 q z' hz => q mu2 H2 _ .refl R2 (((E.ext x1).ext x2).set hz)
          | _ => exact q.elim
        | _ => exact q.elim
      | _ => cases d <;> exact q.elim
end
end PI
set_option Elab.async false
set_option linter.all false
set_option maxRecDepth 100000
set_option maxHeartbeats 4000000
/-! PI, part T: pairs stored; raise; try. -/
namespace PI
open PySem PySem.Spec PyProof.Rows L2
/-! ### a, b = x, y -/
theorem namesOf_some : ∀ {ts : List Expr} {l : List (Str × Pos)}, namesOf ts = some l → ts = l.map fun q => .Name q.1 q.2
  | [], l, h => by
    have e : some [] = some l := h
    cases e
    rfl
  | t :: r, l, h => by
    cases t with
    | Name id p =>
      have e : (namesOf r).map ((id, p) :: ·) = some l := h
      obtain ⟨l', e1, rfl⟩ := Option.map_eq_some_iff.mp e
      rw [namesOf_some e1]
      rfl
    | _ => cases h
theorem namesOf_none : ∀ {ts : List Expr}, namesOf ts = none → ∃ t ∈ ts, ∀ id p, t ≠ .Name id p
  | [], h => by cases h
  | t :: r, h => by
    cases t with
    | Name id p =>
      have e : (namesOf r).map ((id, p) :: ·) = none := h
      obtain ⟨t, h1, h2⟩ := namesOf_none (Option.map_eq_none_iff.mp e)
      exact ⟨t, List.mem_cons_of_mem _ h1, h2⟩
    | _ => exact ⟨_, List.mem_cons_self, fun id p z => by cases z⟩
theorem eraseDups_nodup {l : List Str} (h : l.Nodup) : l.eraseDups = l := by
  induction l with
  | nil => rfl
  | cons a r ih =>
    obtain ⟨h1, h2⟩ := List.nodup_cons.mp h
    rw [List.eraseDups_cons]
    have e : r.filter (fun b => !b == a) = r := List.filter_eq_self.mpr fun b hb => by
      have : b ≠ a := fun z => h1 (by rw [← z]; exact hb)
      simp [this]
    rw [e, ih h2]
section
variable {sc : Scope} {env : PySem.Env} {ts vs : List Expr} {k k2 : Nat} {p p2 : Pos}
theorem star_any (vs : List Expr) : (vs.any fun | .Starred .. => true | _ => false) = vs.any isStar := by
  congr 1
def nameF (env : PySem.Env) (line : Nat) : Expr → Option Str
  | .Name id pos => if env.kindOf id == some .local && pos.line == line then some id else none
  | _ => none
theorem swap_eq : swappedStores [.Tuple ts k p] (.Tuple vs k2 p2) env = (do
    if !(ts.length == 2 || ts.length == 3) || vs.length != ts.length || env.blockKind != .function then return none
    if vs.any isStar then return none
    let names := ts.filterMap (nameF env ((ts.head?.map (·.pos.line)).getD 0))
    if names.length != ts.length || names.eraseDups.length != names.length then return none
    if vs.all (foldedForSure 8) then return none
    if vs.all (constantsAlone 8) then unsupported "assign.tuple-of-constant-expressions:order-of-the-stores"
    return some names) := by
  unfold swappedStores
  simp only [star_any]
  have e : (fun (x : Expr) => match x with
    | .Name id pos => if env.kindOf id == some .local && pos.line == (ts.head?.map (·.pos.line)).getD 0 then some id else none
    | _ => none) = nameF env ((ts.head?.map (·.pos.line)).getD 0) := by
    funext x
    cases x <;> rfl
  rw [← e]
  rfl
theorem filterMap_lt {α β : Type} (f : α → Option β) : ∀ {l : List α} {a : α}, a ∈ l → f a = none → (l.filterMap f).length < l.length
  | b :: l, a, h, e => by
    have hl : (l.filterMap f).length ≤ l.length := List.length_filterMap_le ..
    rw [List.filterMap_cons]
    rcases List.mem_cons.mp h with rfl | h
    · rw [e]
      exact Nat.lt_succ_of_le hl
    · have ih := filterMap_lt f h e
      cases f b with
      | none => exact Nat.lt_succ_of_lt ih
      | some c => exact Nat.succ_lt_succ ih
theorem swap_zero (hk : env.scope.kind = .function) (hsc : env.scope = sc) (h : swapB sc ts vs = 0) : swappedStores [.Tuple ts k p] (.Tuple vs k2 p2) env = pure none := by
  have hb : env.blockKind = .function := by unfold Env.blockKind; rw [hk]; rfl
  rw [swap_eq]
  unfold swapB at h
  split at h
  · rename_i c
    obtain ⟨c1, c2, c3⟩ := c
    have g1 : (!(ts.length == 2 || ts.length == 3) || vs.length != ts.length || env.blockKind != .function) = false := by
      rw [hb, c2]
      rcases c1 with c1 | c1 <;> simp [c1]
    rw [g1, c3]
    split at h
    · rename_i l e
      split at h
      · rename_i x p0 r
        split at h
        · split at h
          · split at h
            · rename_i hf
              simp only [hf, Bool.false_eq_true, if_false, if_true]
              split <;> rfl
            · split at h <;> cases h
          · cases h
        · rename_i cc
          have et := namesOf_some e
          have hl : (ts.head?.map (·.pos.line)).getD 0 = p0.line := by rw [et]; rfl
          rw [Bool.not_eq_true, List.all_eq_false] at cc
          obtain ⟨q, hq, hn⟩ := cc
          have h1 : Expr.Name q.1 q.2 ∈ ts := by rw [et]; exact List.mem_map_of_mem (f := fun q : Str × Pos => Expr.Name q.1 q.2) hq
          have h3 : nameF env ((ts.head?.map (·.pos.line)).getD 0) (.Name q.1 q.2) = none := by
            rw [hl]
            show (if env.kindOf q.1 == some .local && q.2.line == p0.line then some q.1 else none) = none
            rw [if_neg]
            intro z
            apply hn
            rw [Bool.and_eq_true] at z ⊢
            refine ⟨decide_eq_true ?_, decide_eq_true (eq_of_beq z.2)⟩
            have z1 : env.kindOf q.1 = some .local := eq_of_beq z.1
            rw [← hsc]
            exact z1
          have h4 := filterMap_lt _ h1 h3
          have g2 : ((ts.filterMap (nameF env ((ts.head?.map (·.pos.line)).getD 0))).length != ts.length) = true := by
            simp only [bne_iff_ne]
            omega
          simp only [g2, Bool.true_or, if_true, Bool.false_eq_true, if_false]
      · cases h
    · rename_i e
      obtain ⟨t, h1, h2⟩ := namesOf_none e
      have h3 : nameF env ((ts.head?.map (·.pos.line)).getD 0) t = none := by
        cases t <;> first | rfl | exact absurd rfl (h2 _ _)
      have h4 := filterMap_lt _ h1 h3
      have g2 : ((ts.filterMap (nameF env ((ts.head?.map (·.pos.line)).getD 0))).length != ts.length) = true := by
        simp only [bne_iff_ne]
        omega
      simp only [g2, Bool.true_or, if_true, Bool.false_eq_true, if_false]
  · rename_i c
    by_cases g1 : (!(ts.length == 2 || ts.length == 3) || vs.length != ts.length || env.blockKind != .function) = true
    · rw [g1]
      rfl
    · have g1' := Bool.eq_false_iff.mpr g1
      rw [g1']
      have c3 : vs.any isStar = true := by
        cases e : vs.any isStar with
        | true => rfl
        | false =>
          refine absurd ⟨?_, ?_, e⟩ c
          · simp only [Bool.or_eq_false_iff] at g1'
            have := g1'.1.1
            simp at this
            omega
          · simp only [Bool.or_eq_false_iff] at g1'
            have := g1'.1.2
            simpa using this
      rw [c3]
      rfl
theorem swap_one (hk : env.scope.kind = .function) (hsc : env.scope = sc) (h : swapB sc ts vs = 1) : ∃ l : List (Str × Pos), ts = l.map (fun q => .Name q.1 q.2) ∧ (l.map (·.1)).Nodup ∧ (∀ q ∈ l, sc.names.lookup q.1 = some .local) ∧ (ts.length = 2 ∨ ts.length = 3) ∧ vs.length = ts.length ∧ vs.any isStar = false ∧
    swappedStores [.Tuple ts k p] (.Tuple vs k2 p2) env = pure (some (l.map (·.1))) := by
  have hb : env.blockKind = .function := by unfold Env.blockKind; rw [hk]; rfl
  unfold swapB at h
  split at h
  · rename_i c
    obtain ⟨c1, c2, c3⟩ := c
    split at h
    · rename_i l e
      have et := namesOf_some e
      split at h
      · rename_i x p0 r
        split at h
        · rename_i cc1
          split at h
          · rename_i cc2
            have cc := And.intro cc1 cc2
            split at h
            · cases h
            · rename_i hf
              split at h
              · cases h
              · rename_i hcn
                refine ⟨_, et, cc.2, fun q hq => ?_, c1, c2, c3, ?_⟩
                · have := List.all_eq_true.mp cc.1 q hq
                  simp only [Bool.and_eq_true, decide_eq_true_eq] at this
                  exact this.1
                · rw [swap_eq]
                  have g1 : (!(ts.length == 2 || ts.length == 3) || vs.length != ts.length || env.blockKind != .function) = false := by
                    rw [hb, c2]
                    rcases c1 with c1 | c1 <;> simp [c1]
                  have hl : (ts.head?.map (·.pos.line)).getD 0 = p0.line := by rw [et]; rfl
                  have hn : ts.filterMap (nameF env ((ts.head?.map (·.pos.line)).getD 0)) = ((x, p0) :: r).map (·.1) := by
                    rw [hl]
                    conv => lhs; rw [et]
                    have all : ∀ q ∈ (x, p0) :: r, nameF env p0.line (.Name q.1 q.2) = some q.1 := fun q hq => by
                      have := List.all_eq_true.mp cc.1 q hq
                      simp only [Bool.and_eq_true, decide_eq_true_eq] at this
                      have e1 : env.kindOf q.1 = some .local := by
                        show env.scope.names.lookup q.1 = some .local
                        rw [hsc]; exact this.1
                      show (if env.kindOf q.1 == some .local && q.2.line == p0.line then some q.1 else none) = some q.1
                      rw [e1, this.2]
                      simp
                    generalize (x, p0) :: r = L at all
                    induction L with
                    | nil => rfl
                    | cons q L ih =>
                      rw [List.map_cons, List.filterMap_cons, all q List.mem_cons_self, ih fun q' h' => all q' (List.mem_cons_of_mem _ h')]
                      rfl
                  have hlen : (((x, p0) :: r).map (·.1)).length = ts.length := by rw [et]; simp
                  rw [g1, c3, hn]
                  dsimp only
                  rw [eraseDups_nodup cc.2, hlen]
                  have f1 : vs.all (foldedForSure 8) = false := Bool.eq_false_iff.mpr hf
                  have f2 : vs.all (constantsAlone 8) = false := Bool.eq_false_iff.mpr hcn
                  simp only [f1, f2, bne_self_eq_false, Bool.or_self, Bool.false_eq_true, if_false]
          · cases h
        · cases h
      · cases h
    · cases h
  · cases h
end
end PI
set_option Elab.async false
set_option linter.all false
set_option maxRecDepth 100000
set_option maxHeartbeats 4000000
/-! PI, part U: pairs stored; raise; try. -/
namespace PI
open PySem PySem.Spec PyProof.Rows L2
section
variable {X : Cx} {W : WS} {F : Cf} {De : Ends} {σ : L2.St} {H : Hp}
/-- what an exception taken here means -/
def TakesI (X : Cx) (W : WS) : Prop := Takes X fun cls d σ H => ∃ c as st mu, XR X.K c as cls d ∧ RSt X.w X.K mu H st ∧ W σ c as st mu H
theorem slots_len : ∀ {l : List (Str × Pos)} {ts : Ts} {c : Tc} {sc : Scope} {n : Nat}, tsOf c sc n (l.map fun q => .Name q.1 q.2) = some ts → tgsSlots ts = l.filterMap (fun q => slot c.N q.1) ∧ ∀ q ∈ l, ∃ i, slot c.N q.1 = some i
  | [], ts, c, sc, 0, h => by cases h
  | [], ts, c, sc, n + 1, h => by
    have e : some Ts.nil = some ts := h
    cases e
    exact ⟨rfl, fun q hq => nomatch hq⟩
  | q :: l, ts, c, sc, 0, h => by cases h
  | q :: l, ts, c, sc, n + 1, h => by
    have e : (match tOf c sc n (.Name q.1 q.2), tsOf c sc n (l.map fun q => .Name q.1 q.2) with
      | some t, some ts => some (Ts.cons t ts)
      | _, _ => none) = some ts := h
    cases e1 : tOf c sc n (.Name q.1 q.2) with
    | none => rw [e1] at e; cases e
    | some t => cases e2 : tsOf c sc n (l.map fun q => .Name q.1 q.2) with
      | none => rw [e1, e2] at e; cases e
      | some ts' =>
        rw [e1, e2] at e
        cases e
        obtain ⟨g1, g2⟩ := slots_len e2
        cases n with
        | zero => cases e1
        | succ n =>
          unfold tOf at e1
          dsimp only at e1
          split at e1
          · cases e3 : slot c.N q.1 with
            | none => rw [e3] at e1; cases e1
            | some i =>
              rw [e3] at e1
              cases e1
              refine ⟨?_, fun p hp => ?_⟩
              · show [i] ++ tgsSlots ts' = _
                rw [g1, List.filterMap_cons, e3]
                rfl
              · rcases List.mem_cons.mp hp with rfl | hp
                · exact ⟨i, e3⟩
                · exact g2 p hp
          · cases e1
theorem tS_par {is : List Nat} {es : Es} (h : tS X.w X.K (evS F (.par is es)) W De σ H) : tA X.w X.K (evEs F es) W σ H fun vs H1 => ∃ ρ st mu l ρ', REs X.w X.K mu H1 ρ σ ∧ RSt X.w X.K mu H1 st ∧ Dens X.w X.K mu H1 vs l ∧ setAll is l ρ = some ρ' ∧ ∀ σ', REs X.w X.K mu H1 ρ' σ' → De.nx σ' H1 := by
  obtain ⟨ρ, st, mu, E, R, h⟩ := h
  rw [evS] at h
  refine ⟨ρ, st, mu, E, R, run_mono (run_ofM h E) fun l st1 mu1 H1 x1 R1 q vs hv => ?_⟩
  cases eb : setAll is l ρ with
  | none => rw [eb] at q; exact q.elim
  | some ρ' =>
    rw [eb] at q
    exact ⟨ρ, st1, mu1, l, ρ', E.ext x1, R1, hv, eb, fun σ' E' => q mu1 H1 σ' .refl R1 E'⟩
/-- the pair of local names stored from the right -/
theorem psD_par {c : Tc} {sc : Scope} {ts es : List Expr} {k k2 n : Nat} {p p2 pos : Pos} {t : Ts} (hN : X.N = c.N) (nd : c.N.Nodup) (hc : X.calm = true) (hk : X.env.scope.kind = .function) (hsc : X.env.scope = sc) (h1 : swapB sc ts es = 1) (ht : tsOf c sc n ts = some t) (ha : PA X es (tA X.w X.K (evEs F (esOf c n sc es)) W)) :
    PS X (.Assign [.Tuple ts k p] (.Tuple es k2 p2) pos) (tS X.w X.K (evS F (.par (tgsSlots t) (esOf c n sc es))) W) := by
  obtain ⟨l, et, hnd, hloc, hlen, hel, hst, hw⟩ := swap_one (k := k) (k2 := k2) (p := p) (p2 := p2) hk hsc h1
  subst et
  obtain ⟨g1, g2⟩ := slots_len ht
  have gN : ∀ {x : Str} {i : Nat}, slot c.N x = some i → X.N[i]? = some x := fun h => by rw [hN]; exact slot_get h
  have ne : ∀ {x y : Str} {i j : Nat}, slot c.N x = some i → slot c.N y = some j → x ≠ y → i ≠ j := fun h h' n z => by
    have a := slot_get h
    have b := slot_get h'
    rw [z, b] at a
    exact n (Option.some.inj a).symm
  match l, hlen with
  | [(x, px), (y, py)], _ =>
    obtain ⟨i, ei⟩ := g2 (x, px) List.mem_cons_self
    obtain ⟨j, ej⟩ := g2 (y, py) (List.mem_cons_of_mem _ List.mem_cons_self)
    have nxy : x ≠ y := fun z => by
      rw [z] at hnd
      simp at hnd
    match es, hel with
    | [a, b], _ =>
      refine (ps_par (i := i) (j := j) hc (by rw [hN]; exact nd) (gN ei) (gN ej) (ne ei ej nxy) (by rw [hsc]; exact hloc (x, px) List.mem_cons_self) (by rw [hsc]; exact hloc (y, py) (List.mem_cons_of_mem _ List.mem_cons_self)) ha hw).imp fun D σ H h => ?_
      have eij : tgsSlots t = [i, j] := by rw [g1]; simp [ei, ej]
      rw [eij] at h
      obtain ⟨ρ, st, mu, E, R, q⟩ := tS_par h
      refine ⟨ρ, st, mu, E, R, run_mono q fun l st1 mu1 H1 x1 R1 q vs hv => ?_⟩
      obtain ⟨ρ1, st2, mu2, l2, ρ', E2, R2, hd, eb, k⟩ := q vs hv
      match l2, hd, eb with
      | [d1, d2], hd, eb =>
        obtain ⟨v, u, rfl, h1, h2⟩ := dens2 hd
        have eb' : some ((ρ1.set i (some d1)).set j (some d2)) = some ρ' := eb
        cases eb'
        exact ⟨v, u, rfl, k _ ((E2.set h1).set h2)⟩
      | [], _, eb => cases eb
      | [_], _, eb => cases eb
      | _ :: _ :: _ :: _, _, eb => cases eb
    | [], e => cases e
    | [_], e => cases e
    | _ :: _ :: _ :: _, e => simp at e
  | [(x, px), (y, py), (z, pz)], _ =>
    obtain ⟨i, ei⟩ := g2 (x, px) List.mem_cons_self
    obtain ⟨j, ej⟩ := g2 (y, py) (List.mem_cons_of_mem _ List.mem_cons_self)
    obtain ⟨m, em⟩ := g2 (z, pz) (List.mem_cons_of_mem _ (List.mem_cons_of_mem _ List.mem_cons_self))
    have hnd' : ¬ (x = y ∨ x = z) ∧ ¬ y = z := by simpa using hnd
    match es, hel with
    | [a, b, d], _ =>
      refine (ps_par3 (i := i) (j := j) (l := m) hc (by rw [hN]; exact nd) (gN ei) (gN ej) (gN em) (ne ei ej fun e => hnd'.1 (.inl e)) (ne ei em fun e => hnd'.1 (.inr e)) (ne ej em hnd'.2) (by rw [hsc]; exact hloc (x, px) List.mem_cons_self) (by rw [hsc]; exact hloc (y, py) (List.mem_cons_of_mem _ List.mem_cons_self)) (by rw [hsc]; exact hloc (z, pz) (List.mem_cons_of_mem _ (List.mem_cons_of_mem _ List.mem_cons_self))) ha hw).imp fun D σ H h => ?_
      have eij : tgsSlots t = [i, j, m] := by rw [g1]; simp [ei, ej, em]
      rw [eij] at h
      obtain ⟨ρ, st, mu, E, R, q⟩ := tS_par h
      refine ⟨ρ, st, mu, E, R, run_mono q fun l st1 mu1 H1 x1 R1 q vs hv => ?_⟩
      obtain ⟨ρ1, st2, mu2, l2, ρ', E2, R2, hd, eb, k⟩ := q vs hv
      match l2, hd, eb with
      | [d1, d2, d3], hd, eb =>
        cases hd with
        | cons h0 hd =>
          obtain ⟨v, u, rfl, h1, h2⟩ := dens2 hd
          have eb' : some (((ρ1.set i (some d1)).set j (some d2)).set m (some d3)) = some ρ' := eb
          cases eb'
          exact ⟨_, v, u, rfl, k _ (((E2.set h0).set h1).set h2)⟩
      | [], _, eb => cases eb
      | [_], _, eb => cases eb
      | [_, _], _, eb => cases eb
      | _ :: _ :: _ :: _ :: _, _, eb => cases eb
    | [], e => cases e
    | [_], e => cases e
    | [_, _], e => cases e
    | _ :: _ :: _ :: _ :: _, e => simp at e
  | [], hl => simp at hl
  | [_], hl => simp at hl
  | _ :: _ :: _ :: _ :: _, hl => simp at hl
/-! ### raise -/
/-- an exception class of the program, without arguments -/
structure ExcOk (X : Cx) (x : Str) : Prop where
  mg : X.mg x = some (.ref (He.ga X.K x))
  exc : PySem.W.excIn X.K (He.ga X.K x) He.veBase "ValueError.__new__" = true
  keep : PySem.W.keepIn X.K (.ref (He.ga X.K x)) = true
  sub : PySem.W.subIn X.K (.ref (He.ga X.K x)) (.type "BaseException") = some true
  ty : PySem.W.typeIn X.K (.ref (He.ga X.K x)) = some (.type "type")
end
end PI
set_option Elab.async false
set_option linter.all false
set_option maxRecDepth 100000
set_option maxHeartbeats 4000000
/-! PI, part V: raise; try with clauses of both forms. -/
namespace PI
open PySem PySem.Spec PyProof.Rows L2
section
variable {X : Cx} {W : WS} {F : Cf} {De : Ends} {σ : L2.St} {H : Hp}
/-- X(), X an exception class of the program without own __init__ -/
theorem pmk0 {x : Str} {p pos : Pos} (e : ExcOk X x) (hg : Gl X x) (hdb : (x == ("__debug__" : Str)) = false) : PMk X (.Call (.Name x p) [] [] pos) (fun _ H Q => Q (.ref (He.ga X.K x)) none H) := by
  intro pins s σ H Q I h
  refine wpAny_Call_Name_kw (ld_glob I hg e.mg ?_ hdb)
  refine PySem.W.callWith_K0 I.kIn e.keep ?_
  obtain ⟨bm, N, nm, qn, bs, hdct, sn, sub, ab, col, dd, k0, k1, k2, k3, k5, mN, hC, hN, hni, T⟩ := exc_obj I.kIn e.exc
  refine wpAny_call_exc_subT PySem.F.excBase_ValueError T hC hN hni (fun h' a hm => ?_) (Nat.zero_le _)
  exact mk_of I hm (raises_own e.sub e.ty) h (I.hok.gone hm.new)
theorem psD_raise {x : Str} {p pos pos' : Pos} (tk : TakesI X W) (hc : X.calm = true) (e : ExcOk X x) (hg : Gl X x) (hdb : (x == ("__debug__" : Str)) = false) :
    PS X (.Raise (some (.Call (.Name x p) [] [] pos)) none pos') (tS X.w X.K (evS F (.raise x .nil)) W) := by
  refine (ps_raise hc tk (pmk0 e hg hdb)).imp fun D σ H h => ?_
  obtain ⟨ρ, st, mu, E, R, h⟩ := h
  rw [evS, evEs] at h
  exact ⟨x, [], st, mu, ⟨rfl, rfl, rfl⟩, R, h mu H σ .refl R E⟩
/-! ### try -/
abbrev Sui := Addr → Value → Option Addr → TS
/-- what the clauses wish of an exception, one after the other; a clause may give it a name -/
def wAny (K : PySem.W.Frag) (Wo : WX) (D : Ends) : List (Value × Option Nat × Sui) → WX
  | [] => Wo
  | (c, none, ts) :: r => fun cls d σ H => ∃ b, PySem.W.exmOne K cls c = some b ∧ (b = true → ∀ a, H a = none → ts a cls d D σ H) ∧ (b = false → wAny K Wo D r cls d σ H)
  | (c, some i, ts) :: r => fun cls d σ H => ∃ b, PySem.W.exmOne K cls c = some b ∧ (b = true → ∀ a, H a = none → ts a cls d { nx := fun σ' H' => D.nx (σ'.set i none) H', rt := D.rt, bk := fun σ' H' => D.bk (σ'.set i none) H', ct := fun σ' H' => D.ct (σ'.set i none) H' } (σ.set i (some (.ref a))) H) ∧ (b = false → wAny K Wo D r cls d σ H)
inductive HdsM (X : Cx) : List ExceptHandler → List (Value × Option Nat × Sui) → Prop
  | nil : HdsM X [] []
  | plain {x : Str} {c : Value} {ts : Sui} {b₀ : Stmt} {suite : List Stmt} {np pos' : Pos} {hds : List ExceptHandler} {l : List (Value × Option Nat × Sui)} (hc : Names X x c)
      (hsu : ∀ (a : Addr) (oe : Obj) (cls : Value) (d : Option Addr) (pn : List (Addr × Obj)), PSs (X.suite a ((a, oe) :: pn)) (b₀ :: suite) (ts a cls d)) (r : HdsM X hds l) :
      HdsM X (.ExceptHandler (some (.Name x np)) none (b₀ :: suite) pos' :: hds) ((c, none, ts) :: l)
  | named {x n : Str} {i : Nat} {c : Value} {ts : Sui} {b₀ : Stmt} {suite : List Stmt} {np pos' : Pos} {hds : List ExceptHandler} {l : List (Value × Option Nat × Sui)} (hc : Names X x c) (hi : X.N[i]? = some n) (hl : X.env.kindOf n = some .local)
      (hsu : ∀ (a : Addr) (oe : Obj) (cls : Value) (d : Option Addr) (pn : List (Addr × Obj)), PSs (X.suite a ((a, oe) :: pn)) (b₀ :: suite) (ts a cls d)) (r : HdsM X hds l) :
      HdsM X (.ExceptHandler (some (.Name x np)) (some n) (b₀ :: suite) pos' :: hds) ((c, some i, ts) :: l)
theorem ps_try_any {body : List Stmt} {h₀ : ExceptHandler} {hds : List ExceptHandler} {l : List (Value × Option Nat × Sui)} {pos : Pos} {tb : WX → TS} {Wo : WX} (hs : X.stack = X.env :: X.outer) (hf : X.env.frame = some X.env.locals) (hN : X.N.Nodup) (tk : Takes X Wo)
    (hb : ∀ (Wx : WX) (pn : List (Addr × Obj)) (xe : Value → Shared → Prop), Takes (X.tr pn xe) Wx → PassesOwn (model X.prog X.w) X.A X.env xe → PSs (X.tr pn xe) body (tb Wx))
    (hh : HdsM X (h₀ :: hds) l) : PS X (.Try body (h₀ :: hds) [] [] pos) (fun D σ H => tb (wAny X.K Wo D l) D σ H) := by
  refine ⟨fun pins s σ H D I h => ?_⟩
  have okX := I.ok
  have frames : X.A.frames = some (X.env :: X.outer) := by rw [okX.frames, hs]
  refine wpAny_Try_except ?_
  refine wpAny_mono ((hb (wAny X.K Wo D l) (X.pn ++ pins) (fun e t₁ => wpAny (model X.prog X.w) X.A (noteFrame e X.env) (fun _ t₂ => wpAny (model X.prog X.w) X.A (setFlight e none) (fun _ t₃ =>
    wpAny (model X.prog X.w) X.A (handleBy e X.env (h₀ :: hds)) (SP X pins D) X.xe t₃) X.xe t₂) X.xe t₁) (fun u s' air => ?_) PassesOwn.looking).run [] s σ H D (I.toTry _) h) (fun f s1 hsp => ?_) (fun e s1 he => he)
  · obtain ⟨a, B, sI, pins2, σ2, H2, cls, d, rfl, J0, nb, up, sky, na, os, ag, w⟩ := air
    have J : Inv X pins σ2 H2 sI := J0.ofTry okX
    have skyX : Sky B (X.env :: X.outer) a (Zc cls d) X.env.locals s'.heap := by rw [← hs]; exact sky
    show wpAny (model X.prog X.w) X.A (noteFrame (.ref a) X.env) _ _ _
    refine Sky.land Zc.steady frames hf skyX fun h3 fl3 up3 => ?_
    have J3 : Inv X pins σ2 H2 { s' with heap := h3 } := J.landed nb fl3.1 (up.trans up3) os ag
    obtain ⟨oe3, vs3, he3, hz3, hd3⟩ := fl3.there
    have off : a ∉ frs (X.env :: X.outer) := fun hm => by
      obtain ⟨_, o', e', hnf⟩ := fl3.2.2.1.mem hm
      rw [he3] at e'
      cases e'
      exact hnf _ hd3
    have nL : a ≠ X.env.locals := fun z => off (List.mem_filterMap.mpr ⟨X.env, List.mem_cons_self, by rw [hf, z]⟩)
    have nF : a ∉ X.fs := fun hm => by
      obtain ⟨e, he, q⟩ := List.mem_filterMap.mp hm
      exact off (List.mem_filterMap.mpr ⟨e, List.mem_cons_of_mem _ he, q⟩)
    have S3 := J3.suite he3 hd3 na nL nF
    have isT : PySem.W.Looks (model X.prog X.w) h3 (typeOf (.ref a)) cls := fun A Q E s k q => wpAny_typeOf_ref (k _ _ he3) (by rw [hz3.1]; exact q)
    have name_ : ∀ {x : Str} {c : Value} {np : Pos} {Q : Value → Shared → Prop} {E : Value → Shared → Prop}, Names X x c → Q c { s' with heap := h3 } → wpAny (model X.prog X.w) (X.A.mark (some (.ref a))) (eval (.Name x np) X.env) Q E { s' with heap := h3 } := fun {x c np Q E} hc q => by
      obtain ⟨hg, hdbg, hm | ⟨hm, hv, hnn⟩⟩ := hc
      · exact ld_glob (X := X.suite a ((a, oe3) :: (X.pn ++ pins))) S3 hg hm q hdbg
      · exact ld_blt (X := X.suite a ((a, oe3) :: (X.pn ++ pins))) S3 hg hm hv q hnn hdbg
    have go : ∀ {hs' : List ExceptHandler} {l' : List (Value × Option Nat × Sui)}, HdsM X hs' l' → wAny X.K Wo D l' cls d σ2 H2 → wpAny (model X.prog X.w) X.A (handleBy (.ref a) X.env hs') (SP X pins D) X.xe { s' with heap := h3 } := by
      intro hs' l' hk
      induction hk with
      | nil =>
        intro w
        refine wpAny_handleBy_nil ?_
        obtain ⟨k1, k2, k3, oe, vs, T, oT, ts', he, hz, hd, h1, hr⟩ := id fl3
        unfold PySem.passOn
        refine wpAny_bind (wpAny_field he hd h1 ?_)
        rw [if_neg (show ¬ ((Value.ref T == Value.none) = true) from by simp)]
        have out : wpAny (model X.prog X.w) X.A (setFlight (.ref a) X.env.frame) (fun _ s4 => wpAny (model X.prog X.w) X.A (throw (.ref a) : Sem Flow) (SP X pins D) X.xe s4) X.xe { s' with heap := h3 } := by
          rw [hf]
          exact HandSPX.setFlight_upZ fl3 fun h4 hh4 up4 => wpAny_throw (tk _ _ ⟨a, B, sI, pins, σ2, H2, cls, d, rfl, J, nb, (up.trans up3).trans up4, .inr (.inr (by rw [hs]; exact hh4)), na, os, ag, w⟩)
        first
          | exact wpAny_bind (wpAny_pure (wpAny_bind out))
          | exact wpAny_bind out
      | plain hc hsu r ih =>
        intro w
        obtain ⟨b, hb1, yes, no⟩ := w
        refine wpAny_handleBy_cons (codeAny_handlers_test ?_) (by intro q; cases q)
        refine name_ hc ((PySem.W.exm_one (M := model X.prog X.w) J3.kIn isT hb1).here ?_)
        cases b with
        | false =>
          show wpAny _ X.A (handleBy (.ref a) X.env _) _ _ _
          exact ih (no rfl)
        | true =>
          refine codeAny_handlers_suite ?_
          refine HandSPX.lands_againZ fl3 fun h4 fl4 up4 => ?_
          have J4 : Inv X pins σ2 H2 { s' with heap := h4 } := J.landed nb fl4.1 ((up.trans up3).trans up4) os ag
          obtain ⟨oe4, vs4, he4, hz4, hd4⟩ := fl4.there
          have S4 := J4.suite he4 hd4 na nL nF
          refine wpAny_mono ((hsu a oe4 cls d (X.pn ++ pins)).run [] _ _ H2 _ S4 (yes rfl a na)) (fun f s6 hsp => ?_) (fun _ _ z => False.elim z)
          cases f with
          | ret u =>
            obtain ⟨v6, σ6, H6, S6, r6, q6⟩ := hsp
            exact ⟨_, _, _, S6.unsuite okX, r6, q6⟩
          | next =>
            obtain ⟨σ6, H6, S6, q6⟩ := hsp
            exact ⟨_, _, S6.unsuite okX, q6⟩
          | brk =>
            obtain ⟨σ6, H6, S6, q6⟩ := hsp
            exact ⟨_, _, S6.unsuite okX, q6⟩
          | cont =>
            obtain ⟨σ6, H6, S6, q6⟩ := hsp
            exact ⟨_, _, S6.unsuite okX, q6⟩
      | @named x n i c ts b₀ suite np pos' hds2 l2 hc hi hl hsu r ih =>
        intro w
        obtain ⟨b, hb1, yes, no⟩ := w
        refine wpAny_handleBy_cons (codeAny_handlers_test ?_) (by intro q; cases q)
        refine name_ hc ((PySem.W.exm_one (M := model X.prog X.w) J3.kIn isT hb1).here ?_)
        cases b with
        | false =>
          show wpAny _ X.A (handleBy (.ref a) X.env _) _ _ _
          exact ih (no rfl)
        | true =>
          refine codeAny_handlers_suite_as ?_
          refine HandSPX.lands_againZ fl3 fun h4 fl4 up4 => ?_
          have J4 : Inv X pins σ2 H2 { s' with heap := h4 } := J.landed nb fl4.1 ((up.trans up3).trans up4) os ag
          obtain ⟨oe4, vs4, he4, hz4, hd4⟩ := fl4.there
          have S4 := J4.suite he4 hd4 na nL nF
          refine store_ok (X := X.suite a ((a, oe4) :: (X.pn ++ pins))) (v := .ref a) S4 hN hi (.inl hl) rfl (fun s5 S5 => ?_) (.inr hl)
          refine wpAny_mono ((hsu a oe4 cls d (X.pn ++ pins)).run [] s5 _ H2 _ S5 (yes rfl a na)) (fun f s6 hsp => ?_) (fun _ _ z => False.elim z)
          have gone : ∀ {σ6 : L2.St} {H6 : Hp} {Q : Shared → Prop}, Inv (X.suite a ((a, oe4) :: (X.pn ++ pins))) [] σ6 H6 s6 → (∀ s7, Inv X pins (σ6.set i none) H6 s7 → Q s7) →
              wpAny (model X.prog X.w) X.A (do bindName X.env n .none; unbindBehindTheSuite X.env n pos') (fun _ s7 => Q s7) X.xe s6 := fun {σ6 H6 Q} S6 hq => gone_ok (S6.unsuite okX) hN hi hl hq
          cases f with
          | ret u =>
            obtain ⟨v6, σ6, H6, S6, r6, q6⟩ := hsp
            exact gone S6 fun s7 J7 => ⟨_, _, _, J7, r6, q6⟩
          | next =>
            obtain ⟨σ6, H6, S6, q6⟩ := hsp
            exact gone S6 fun s7 J7 => ⟨_, _, J7, q6⟩
          | brk =>
            obtain ⟨σ6, H6, S6, q6⟩ := hsp
            exact gone S6 fun s7 J7 => ⟨_, _, J7, q6⟩
          | cont =>
            obtain ⟨σ6, H6, S6, q6⟩ := hsp
            exact gone S6 fun s7 J7 => ⟨_, _, J7, q6⟩
    exact go hh w
  · cases f with
    | ret u =>
      obtain ⟨v, σ', H', J', r, q⟩ := hsp
      exact ⟨v, σ', H', J'.ofTry okX, r, q⟩
    | next =>
      obtain ⟨σ', H', J', q⟩ := hsp
      exact wpAny_execs_nil ⟨σ', H', J'.ofTry okX, q⟩
    | brk =>
      obtain ⟨σ', H', J', q⟩ := hsp
      exact ⟨σ', H', J'.ofTry okX, q⟩
    | cont =>
      obtain ⟨σ', H', J', q⟩ := hsp
      exact ⟨σ', H', J'.ofTry okX, q⟩
end
end PI
set_option Elab.async false
set_option linter.all false
set_option maxRecDepth 100000
set_option maxHeartbeats 4000000
/-! PI, part W: dict comprehensions (the rule follows the layer's own for dicts of one kind of key; here the dict is any that PI knows). -/
namespace PI
open PySem PySem.Spec PyProof.Rows L2
/-- {} as an object -/
def dEmpty : Obj := { cls := .type "dict", data := .dict #[] }
theorem dEmpty_at {w : World} {H : Hp} {D : Addr} (hs : (D == sysModules) = false) (h : H D = some (dHO D dEmpty)) : DctAt w H D [] [] [] :=
  ⟨dEmpty, #[], 0, h, ⟨rfl, rfl, rfl⟩, rfl, hs, Nat.zero_le _, .nil, .nil, rfl⟩
section
variable {X : Cx} {pins : List (Addr × Obj)} {σ : L2.St} {H : Hp} {s : Shared} {mu : Mu} {D : Addr} {ks vs : List PI.D} {kv vv : List V} {k : PI.D} {y v : V} {u r : Value}
theorem d_setC {E : Value → Shared → Prop} {Q : Unit → Shared → Prop} (hu : X.A.units + 8 < cLine) (I : Inv X pins σ H s) (q : DQ X mu H D ks vs kv vv) (fam : famOk k ks = true) (hk : Den X.w X.K mu H y k) (ry : RelV y u) (rv : RelV v r) (hz : ks.length < sizeLine)
    (h : ∀ s' o kv', kNodup (putKs k ks) → Dens X.w X.K mu H kv' (putKs k ks) → (∀ H', H' D = some (dHO D o) → DctAt X.w H' D (putKs k ks) kv' (putV k ks vv v)) → Inv X pins σ (upd H D (dHO D o)) s' → Q () s') : wpAny (model X.prog X.w) X.A (dictSet D u r) Q E s := by
  refine d_putD I q fam hk ry rv hz (fun k' kvs g1 g2 g3 g4 => wpAny_dictSet_pairs (hsz := g3) g1 g2 g4) (fun b k' xs eu g1 g2 g3 g4 => ?_) fun h' t' sb p => ?_
  · subst eu
    exact wpAny_dictSet_heap (hsz := g3) hu g1 g2 g4
  · obtain ⟨o, kv', ho, hn, dn, mk⟩ := p
    obtain ⟨o0, _, _, g1, _⟩ := id q.at_
    exact h _ o kv' hn dn mk (d_write I (by rw [g1]; exact True.intro) sb ⟨o, ho⟩ (dHO_ok ho))
end
section
variable {X : Cx}
/-- what a turn's store leaves -/
def PutC (X : Cx) (D : Addr) (y z : V) (H : Hp) (Nx : Hp → Prop) : Prop := ∃ mu ks vs kv vv k, DQ X mu H D ks vs kv vv ∧ famOk k ks = true ∧ Den X.w X.K mu H y k ∧ ks.length < sizeLine ∧
  ∀ o kv', kNodup (putKs k ks) → Dens X.w X.K mu H kv' (putKs k ks) → (∀ H', H' D = some (dHO D o) → DctAt X.w H' D (putKs k ks) kv' (putV k ks vv z)) → Nx (upd H D (dHO D o))
/-- {y: z for target in iter if ..}, D the new dict -/
def tDcD (X : Cx) (wi : TI) (g : TG) (tt : TT) (tk tv : TE) (vs : List Nat) : TE := fun σ H Q => wi σ H fun J H1 => ∀ D, H1 D = none → (D == sysModules) = false → ∃ W : Nat → Nat → Hp → Prop, (∃ m, W 0 m (upd H1 D (dHO D dEmpty))) ∧ ∀ i m H, W i m H →
  (J.stop i H ∧ Q (.ref D) H) ∨ (J.go i H ∧ ∃ Nx : Hp → Prop, (∀ H', Nx H' → ∃ m', m' < m ∧ W (i + 1) m' H') ∧ ∀ x H', J.yld i H x H' → g x (L2.wipe σ vs) H' fun σ2 H2 => L2.wipe σ2 vs = L2.wipe σ vs ∧ tt σ2 H2 fun b H3 =>
    if b = true then tk σ2 H3 fun y H4 => tv σ2 H4 fun z H5 => PutC X D y z H5 Nx else Nx H3)
theorem dcD_core {pins : List (Addr × Obj)} {s : Shared} {σ : L2.St} {H : Hp} {Q : VK} {kx vx tg iter : Expr} {ifs : List Expr} {scope : Scope} {own : List (Str × Nat)} {pos pos' : Pos} {wi : TI} {g : TG} {tt : TT} {tk tv : TE} {use : Option (Value → Sem Unit)} {Qf : Value → Shared → Prop}
    (hu : X.A.units + 8 < cLine) (hc : X.calm = true) (hN : X.N.Nodup) (I : Inv X pins σ H s) (hi : PI X tg iter wi) (ok : BlkOk X.N X.env.scope scope own)
    (hg : ∀ (s : Shared) (H : Hp) (C : Addr) (cl : List (Str × Addr)) (fp : List Addr), PG (X.blk s H scope (compEnvC scope cl C X.env) fp) tg g) (ht : ∀ (s : Shared) (H : Hp) (C : Addr) (cl : List (Str × Addr)) (fp : List Addr), PTs (X.blk s H scope (compEnvC scope cl C X.env) fp) ifs tt)
    (hk : ∀ (s : Shared) (H : Hp) (C : Addr) (cl : List (Str × Addr)) (fp : List Addr), PE (X.blk s H scope (compEnvC scope cl C X.env) fp) kx tk)
    (he : ∀ (s : Shared) (H : Hp) (C : Addr) (cl : List (Str × Addr)) (fp : List Addr), PE (X.blk s H scope (compEnvC scope cl C X.env) fp) vx tv) (hs : ∀ x, foldedSetIterable iter X.env x = pure x)
    (h : tDcD X wi g tt tk tv (own.map (·.2)) σ H Q)
    (hRR : ∀ D C s' m H', Inv X pins σ H' s' → Q (.ref D) H' → s'.heap.Ns C m → FpOk X pins H' C → compPost (model X.prog X.w) X.A X.xe use Qf (.ref D) C (.ok .next) s') :
    wpAny (model X.prog X.w) X.A (comprehension (.DictComp kx vx [⟨tg, iter, ifs, 0⟩] scope pos) scope X.env pos' newDict false (eval iter X.env) use) Qf X.xe s := by
  have capt : ∀ y ∈ scope.names, y.2 = .free → ∃ c, X.env.cells.lookup y.1 = some c := fun y hy e => by
    rcases ok.free y hy e with k | k
    · exact I.ok.has _ (.inl k)
    · exact I.ok.has _ (.inr k)
  refine wpAny_comprehension_free (use := use) rfl hs (closure_ok capt) ok.kind (fun y hy e => by rw [ok.uniq y hy, e])
    (thn (hi.run pins s σ H _ I h) fun xv s1 hx => thn hx fun itv s2 hh2 => ?_)
  obtain ⟨it, fp, tn, J, H2, e, J2, T, tn2, fr2, q⟩ := hh2
  subst e
  refine wpAny_newObj_type (newEnv_comp ?_)
  generalize hD : s2.heap.objs.size = D
  have noD : H2 D = none := J2.hok.fresh (Nat.le_of_eq hD)
  have nsm : (D == sysModules) = false := by
    rw [← hD]
    exact beq_eq_false_iff_ne.mpr (Ne.symm (Nat.ne_of_lt J2.big))
  obtain ⟨W, ⟨m0, w0⟩, step_⟩ := q D noD nsm
  -- the new list
  generalize hs3 : ({ s2 with heap := s2.heap.push { cls := .type "dict", data := .dict #[] } } : Shared) = s3
  have J3 : Inv X pins σ (upd H2 D (dHO D dEmpty)) s3 := by
    rw [← hs3]
    refine J2.laid (t' := s2.toks) (fun b o e => Heap.get?_push_of_some _ e) (Nat.le_of_eq hD) ?_
    rw [← hD]
    exact dHO_ok (Heap.get?_push_size _ rfl)
  have hh3 : s3.heap = s2.heap.push { cls := .type "dict", data := .dict #[] } := by rw [← hs3]
  have siz : ∀ b ∈ fp, b < s2.heap.objs.size := fun b hb => by
    obtain ⟨o, e, _⟩ := T.obj _ _ tn2 b hb
    exact Heap.lt_size e
  have fr3 : ∀ b ∈ fp, FpOk X pins (upd H2 D (dHO D dEmpty)) b ∧ b < s3.heap.objs.size := fun b hb => by
    have hlt := siz b hb
    refine ⟨⟨?_, (fr2 b hb).2⟩, by rw [hh3, Heap.size_push]; exact Nat.lt_succ_of_lt hlt⟩
    rw [upd_ne (by rw [← hD]; exact Nat.ne_of_lt hlt)]
    exact (fr2 b hb).1
  have tn3 : tn 0 s3.heap := T.keep _ _ _ tn2 fun b _ o e => by rw [hh3]; exact Heap.get?_push_of_some _ e
  have J4 := block_start J3 ok hN fr3
  have qg := hg s3 (upd H2 D (dHO D dEmpty)) s3.heap.objs.size (cellsFrom (s3.heap.objs.size + 1) scope.names (cloFrom X.env.cells scope.names [])) fp
  have qt := ht s3 (upd H2 D (dHO D dEmpty)) s3.heap.objs.size (cellsFrom (s3.heap.objs.size + 1) scope.names (cloFrom X.env.cells scope.names [])) fp
  have qk := hk s3 (upd H2 D (dHO D dEmpty)) s3.heap.objs.size (cellsFrom (s3.heap.objs.size + 1) scope.names (cloFrom X.env.cells scope.names [])) fp
  have qv := he s3 (upd H2 D (dHO D dEmpty)) s3.heap.objs.size (cellsFrom (s3.heap.objs.size + 1) scope.names (cloFrom X.env.cells scope.names [])) fp
  show codeAny _ _ (.compStart (.DictComp kx vx [⟨tg, iter, ifs, 0⟩] scope pos) 0 (.ref it) (.ref D) (compEnvC scope (cellsFrom (s3.heap.objs.size + 1) scope.names (cloFrom X.env.cells scope.names [])) s3.heap.objs.size X.env)) (compPost (model X.prog X.w) X.A X.xe use Qf (.ref D) s3.heap.objs.size) { s3 with heap := pushCells (s3.heap.push { cls := .type "dict", data := .dict #[] }) scope.names }
  have notFp : ∀ b ∈ fp, (upd H2 D (dHO D dEmpty)) b = none := fun b hb => (fr3 b hb).1.1
  generalize hce : compEnvC scope (cellsFrom (s3.heap.objs.size + 1) scope.names (cloFrom X.env.cells scope.names [])) s3.heap.objs.size X.env = ce at J4 qg qt qk qv ⊢
  have cL : ce.locals = s3.heap.objs.size := by subst hce; rfl
  generalize hH3 : upd H2 D (dHO D dEmpty) = H3 at J3 J4 qg qt qk qv w0 notFp fr3
  generalize hs4 : ({ s3 with heap := pushCells (s3.heap.push { cls := .type "dict", data := .dict #[] }) scope.names } : Shared) = s4 at J4 ⊢
  have tn4 : tn 0 s4.heap := T.keep _ _ _ tn3 fun b _ o e => by rw [← hs4]; exact pushCells_keeps _ _ _ _ (Heap.get?_push_of_some _ e)
  have still : ∀ {σ' : L2.St} {H' : Hp} {s' : Shared}, Inv (X.blk s3 H3 scope ce fp) [] σ' H' s' → (∀ b ∈ fp, H' b = none) → ∀ b ∈ fp, FpOk (X.blk s3 H3 scope ce fp) [] H' b := fun {σ' H' s'} I' hn b hb =>
    ⟨hn b hb, (I'.ok.exf b hb).1, I'.ok.exfs b hb, .inl hb, fun x c e => (I'.ok.exf b hb).2 x c e, fun p hp => absurd (show p ∈ ([] : List (Addr × Obj)) ++ [] from hp) (by simp)⟩
  have loop : codeAny (model X.prog X.w) X.A (.compLoop (.DictComp kx vx [⟨tg, iter, ifs, 0⟩] scope pos) 0 (.ref it) (.ref D) ce) (compPost (model X.prog X.w) X.A X.xe use Qf (.ref D) s3.heap.objs.size) s4 := by
    refine compLoop_anyD (fun n s' => ∃ i H', Inv (X.blk s3 H3 scope ce fp) [] (wipe σ (own.map (·.2))) H' s' ∧ tn i s'.heap ∧ (∀ b ∈ fp, H' b = none) ∧ W i n H') ?_ m0 ⟨0, H3, J4, tn4, notFp, w0⟩
    rintro n t5 ⟨i, H5, J5, tn5, nf5, w5⟩
    rcases step_ i n H5 w5 with ⟨stop, qq⟩ | ⟨go, Nx, hNx, step⟩
    · have dn := T.done (X.blk s3 H3 scope ce fp) rfl rfl rfl hc i [] t5 _ H5 (fun _ _ => False) J5 (still J5 nf5) tn5 stop
      refine thnF dn fun r t6 ⟨hr, J6⟩ => ?_
      subst hr
      -- back in the def's context
      have J7 : Inv X pins σ H5 t6 := J3.call' (ch := fp) J6.os J6.base J6.hok J6.bare fun b hb => ⟨(fr3 b hb).1.2.2.2.1, (fr3 b hb).1.2.1, (fr3 b hb).1.2.2.2.2.1, (fr3 b hb).1.2.2.2.2.2⟩
      have nC : H5 s3.heap.objs.size = none := by
        have z : H5 ce.locals = none := J6.free
        rw [cL] at z
        exact z
      obtain ⟨m, hn, _⟩ := J6.loc
      have hn : t6.heap.Ns ce.locals m := hn
      rw [cL] at hn
      exact hRR D s3.heap.objs.size t6 m H5 J7 qq hn (J3.fpOk (Nat.le_refl _) nC)
    · have nx_ := T.item (X.blk s3 H3 scope ce fp) rfl rfl rfl hc i [] t5 _ H5 (fun _ _ => False) J5 (still J5 nf5) tn5 go
      refine thnF nx_ fun r t6 ⟨u, hr, hh6⟩ => ?_
      subst hr
      refine thnF hh6 fun _ t7 ⟨x, H7, J7, r7, y7, tn7, nf7⟩ => ?_
      have J7' := J7.pinned (still J7 nf7) (T.obj _ _ tn7)
      refine thnF (qg.run _ t7 _ H7 x u _ J7' r7 (step x H7 y7)) fun _ t8 ⟨σ8, H8, J8, hw8, w8⟩ => ?_
      refine thnF (qt.run _ t8 σ8 H8 _ J8 w8) fun b t9 ⟨H9, J9, w9⟩ => ?_
      -- the turn's end
      have close_ : ∀ {s' : Shared} {H' : Hp}, Inv (X.blk s3 H3 scope ce fp) ([] ++ pinsAt fp t7.heap) σ8 H' s' → Nx H' → ∃ m, m < n ∧ ∃ i H', Inv (X.blk s3 H3 scope ce fp) [] (wipe σ (own.map (·.2))) H' s' ∧ tn i s'.heap ∧ (∀ b ∈ fp, H' b = none) ∧ W i m H' := fun {s' H'} I' nx => by
        obtain ⟨m', hm, w'⟩ := hNx H' nx
        have pinned_ : ∀ b ∈ fp, ∀ o, t7.heap.get? b = some o → s'.heap.get? b = some o ∧ H' b = none := fun b hb o e =>
          let z := I'.pin (b, o) (List.mem_append_right _ (List.mem_append_right _ (mem_pinsAt hb e)))
          ⟨z.1, z.2.1⟩
        have hl : (wipe σ (own.map (·.2))).length = σ8.length := by rw [← hw8, wipe_length]
        refine ⟨m', hm, i + 1, H', (I'.unpinned (pins := [])).weak hl (fun j v e => ?_), T.keep _ _ _ tn7 fun b hb o e => (pinned_ b hb o e).1, fun b hb => ?_, w'⟩
        · rw [← hw8] at e
          exact (wipe_some e).1
        · obtain ⟨o, e, _⟩ := T.obj _ _ tn7 b hb
          exact (pinned_ b hb o e).2
      cases b with
      | false =>
        simp only [Bool.false_eq_true, if_false] at w9 ⊢
        exact close_ J9 w9
      | true =>
        simp only [if_true] at w9 ⊢
        refine thnF (qk.run _ t9 σ8 H9 _ J9 w9) fun z t10 ⟨yk, H10, J10, r10, w10⟩ => ?_
        refine thnF (qv.run _ t10 σ8 H10 _ J10 w10) fun z2 t11 ⟨yv, H11, J11, r11, mu, ks, vs, kv, vv, k, dq, fam, hk, hz11, nx⟩ => ?_
        exact d_setC (X := X.blk s3 H3 scope ce fp) hu J11 dq fam hk r10 r11 hz11 fun t12 o kv' nd' dn' at' J12 => close_ J12 (nx o kv' nd' dn' at')
  exact codeAny_compStart_dict loop (T.self X.A 0 _ _ _ tn4 loop)
/-- as a value -/
theorem pe_dcD {kx vx tg iter : Expr} {ifs : List Expr} {scope : Scope} {own : List (Str × Nat)} {pos : Pos} {wi : TI} {g : TG} {tt : TT} {tk tv : TE} (hu : X.A.units + 8 < cLine) (hc : X.calm = true) (hN : X.N.Nodup) (hi : PI X tg iter wi) (ok : BlkOk X.N X.env.scope scope own)
    (hg : ∀ (s : Shared) (H : Hp) (C : Addr) (cl : List (Str × Addr)) (fp : List Addr), PG (X.blk s H scope (compEnvC scope cl C X.env) fp) tg g) (ht : ∀ (s : Shared) (H : Hp) (C : Addr) (cl : List (Str × Addr)) (fp : List Addr), PTs (X.blk s H scope (compEnvC scope cl C X.env) fp) ifs tt)
    (hk : ∀ (s : Shared) (H : Hp) (C : Addr) (cl : List (Str × Addr)) (fp : List Addr), PE (X.blk s H scope (compEnvC scope cl C X.env) fp) kx tk)
    (he : ∀ (s : Shared) (H : Hp) (C : Addr) (cl : List (Str × Addr)) (fp : List Addr), PE (X.blk s H scope (compEnvC scope cl C X.env) fp) vx tv) (hs : ∀ x, foldedSetIterable iter X.env x = pure x := by intro _; rfl) :
    PE X (.DictComp kx vx [⟨tg, iter, ifs, 0⟩] scope pos) (tDcD X wi g tt tk tv (own.map (·.2))) := by
  refine ⟨fun pins s σ H Q I h => ?_⟩
  rw [arm_eval_DictComp]
  refine dcD_core hu hc hN I hi ok hg ht hk he hs h fun D C s' m H' I' q hn f => ⟨m, hn, fun h'' sb => ?_⟩
  obtain ⟨f0, f1, fr2, fr3, f4, f5⟩ := f
  exact ⟨.ref D, H', I'.turned (t' := s'.toks) (fun b o hb e => (sb.2 b hb).trans e) f0 f1 fr3 f4 f5, rfl, q⟩
end
end PI
set_option Elab.async false
set_option linter.all false
set_option maxRecDepth 100000
set_option maxHeartbeats 4000000
/-! PI, part X: dict comprehensions by the interpreter. -/
namespace PI
open PySem PySem.Spec PyProof.Rows L2
section
variable {w : World} {K : PySem.W.Frag} {mu : Mu} {H : Hp} {st : Store} {W : WD}
theorem compD_nil {f : D → M (Option (D × D))} {src : Src} {acc : List D × List D} {Q : List D × List D → Store → Mu → Hp → Prop} (h : run w K (compD f src [] acc st) mu H W Q) : src.chk st = true ∧ run w K (.ok acc st) mu H W Q := run_chk h
theorem compD_cons {f : D → M (Option (D × D))} {src : Src} {x : D} {r : List D} {acc : List D × List D} {Q : List D × List D → Store → Mu → Hp → Prop} (h : run w K (compD f src (x :: r) acc st) mu H W Q) : src.chk st = true ∧ run w K (f x st) mu H noW fun o st1 mu1 H1 => match o with
    | none => run w K (compD f src r acc st1) mu1 H1 W Q
    | some (k, v) => (famOk k acc.1 = true ∧ acc.1.length < sizeLine) ∧ run w K (compD f src r (putK acc.1 acc.2 k v) st1) mu1 H1 W Q := by
  obtain ⟨c, h⟩ := run_chk h
  refine ⟨c, ?_⟩
  cases e : f x st with
  | ok o st1 =>
    rw [e] at h
    cases o with
    | none => exact fun mu1 H1 x R1 => run_ext h x
    | some p =>
      obtain ⟨k, v⟩ := p
      dsimp only at h
      split at h
      · rename_i hz
        exact fun mu1 H1 x R1 => ⟨hz, run_ext h x⟩
      · exact h.elim
  | err c as st1 => rw [e] at h; exact h.elim
  | bad => rw [e] at h; exact h
end
section
variable {X : Cx} {W W0 : WS} {σ : L2.St} {H : Hp} {Q : VK}
def turnK (F : Cf) (tg : T) (c : Es) (k x : E) (ρ : Env) : D → M (Option (D × D)) := fun d => match bindT tg d ρ with
  | some ρ' => do
    let b ← evTs F c ρ'
    if b = true then do
      let y ← evE F k ρ'
      let z ← evE F x ρ'
      M.pure (some (y, z))
    else M.pure none
  | none => mbad
theorem evE_dcomp {F : Cf} {m : Bool} {k x : E} {vs : List Nat} {tg : T} {it : It} {c : Es} {ρ : Env} : evE F (.dcomp m k x vs tg it c) ρ = (do
    let src ← evIt F it ρ
    let l ← compD (turnK F tg c k x (wipeD ρ vs)) src src.items ([], [])
    newK m l.1 l.2) := by
  rw [evE]
  rfl
def MidD (X : Cx) (W : WD) (f : D → M (Option (D × D))) (src : Src) (Fin : List D × List D → Store → Mu → Hp → Prop) (D : Addr) (mu0 : Mu) (H0 : Hp) (rest : List PI.D) (H : Hp) : Prop :=
  ∃ mu Hs st ks vs kv vv o, H = upd Hs D (dHO D o) ∧ Hs D = none ∧ Ext mu0 H0 mu Hs ∧ RSt X.w X.K mu Hs st ∧ Dens X.w X.K mu Hs kv ks ∧ Dens X.w X.K mu Hs vv vs ∧ kNodup ks ∧ okKeys ks = true ∧ (∀ H', H' D = some (dHO D o) → DctAt X.w H' D ks kv vv) ∧ run X.w X.K (compD f src rest (ks, vs) st) mu Hs W Fin
theorem run_newK {m : Bool} {ks vs : List D} {kv vv : List V} {mu : Mu} {H : Hp} {st : Store} {W : WD} (h : run X.w X.K (newK m ks vs st) mu H W (QV X.w X.K Q)) (R : RSt X.w X.K mu H st) (r1 : Dens X.w X.K mu H kv ks) (r2 : Dens X.w X.K mu H vv vs) (nd : kNodup ks) (ok : okKeys ks = true) {D : Addr} {o : Obj} (hD : H D = none) (at_ : ∀ H', H' D = some (dHO D o) → DctAt X.w H' D ks kv vv) : Q (.ref D) (upd H D (dHO D o)) := by
  unfold newK at h
  split at h
  · refine h (mu.push D) (upd H D (dHO D o)) (Ext.newAt hD) (R.push (u := .dct ks vs) hD ⟨kv, vv, at_ _ upd_same, ok, nd, r1.ext (Ext.newAt hD), r2.ext (Ext.newAt hD)⟩) _ (.ref ?_)
    show (mu.pl ++ [D])[st.length]? = some D
    rw [← R.len, List.getElem?_append_right (Nat.le_refl _)]
    simp
  · exact h mu _ (Ext.laid hD) (R.new hD) _ (.dct (at_ _ upd_same) (R.fresh hD) ok nd (r1.ext (Ext.laid hD)) (r2.ext (Ext.laid hD)))
theorem tE_dcomp {F : Cf} {m : Bool} {k x : E} {vs : List Nat} {tg : T} {it : It} {c : Es} (hsub : ∀ i ∈ tgSlots tg, i ∈ vs) (h : tE X.w X.K (evE F (.dcomp m k x vs tg it c)) W σ H Q) :
    tDcD X (tI X (evIt F it) W) (gD X tg) (tT X.w X.K (evTs F c) W0) (tE X.w X.K (evE F k) W0) (tE X.w X.K (evE F x) W0) vs σ H Q := by
  obtain ⟨ρ, st, mu, E, R, h⟩ := h
  rw [evE_dcomp] at h
  refine ⟨ρ, st, mu, E, R, run_mono (run_bind h) fun src st1 mu1 H1 x1 R1 q J hJ D hD hs => ?_⟩
  have E1 : REs X.w X.K mu1 H1 (wipeD ρ vs) (L2.wipe σ vs) := (E.ext x1).wipe vs
  refine ⟨fun i k' H => k' = src.items.length - i ∧ i ≤ src.items.length ∧ MidD X (W σ) (turnK F tg c k x (wipeD ρ vs)) src (fun l st mu H => run X.w X.K (newK m l.1 l.2 st) mu H (W σ) (QV X.w X.K Q)) D mu1 H1 (src.items.drop i) H, ⟨src.items.length, by simp, Nat.zero_le _, ?_⟩, ?_⟩
  · exact ⟨mu1, H1, st1, [], [], [], [], dEmpty, rfl, hD, .refl, R1, .nil, .nil, trivial, rfl, fun H' e => dEmpty_at hs e, run_bind q⟩
  · rintro i k' H2 ⟨rfl, hi, mu2, Hs, st2, ks, us, kv, vv, o, rfl, hs2, x2, R2, r1, r2, nd, ok, at_, hr⟩
    by_cases hlt : i < src.items.length
    · rw [List.drop_eq_getElem_cons hlt] at hr
      obtain ⟨ck, hr⟩ := compD_cons hr
      obtain ⟨g1, g2⟩ := hJ.go (hide D mu2) (upd Hs D (dHO D o)) st2 i src.items[i] (x2.trans (Ext.hide hs2)).w (R2.hide hs2) ck (List.getElem?_eq_getElem hlt)
      refine .inr ⟨g1, MidD X (W σ) (turnK F tg c k x (wipeD ρ vs)) src (fun l st mu H => run X.w X.K (newK m l.1 l.2 st) mu H (W σ) (QV X.w X.K Q)) D mu1 H1 (src.items.drop (i + 1)), fun H' hm => ⟨_, by omega, rfl, hlt, hm⟩, fun v H' hy => ?_⟩
      obtain ⟨y1, y2, y3⟩ := g2 v H' hy
      unfold turnK at hr
      cases eb : bindT tg src.items[i] (wipeD ρ vs) with
      | none => rw [eb] at hr; exact hr.elim
      | some ρ' =>
        rw [eb] at hr
        have xin : Ext mu2 Hs (hide D mu2) (upd Hs D (dHO D o)) := Ext.hide hs2
        refine ⟨wipeD ρ vs, st2, hide D mu2, _, ρ', (E1.ext ((x2.trans xin).trans y1)), y2, y3, eb, fun σ' E' w' => ⟨by rw [w' vs hsub, wipe_wipe], ρ', st2, hide D mu2, E', y2, ?_⟩⟩
        refine run_mono (run_hide hs2 R2 (run_bind hr) y1) fun b st3 mu3 H3 x3 R3 q => ?_
        obtain ⟨q1, q2, q3, q4, q⟩ := q
        cases b with
        | false =>
          simp only [Bool.false_eq_true, if_false] at q ⊢
          exact ⟨unhide D mu3, erase D H3, st3, ks, us, kv, vv, o, erase_upd q2, erase_same, x2.trans q4, q3, r1.ext q4, r2.ext q4, nd, ok, at_, run_pure q q3⟩
        | true =>
          simp only [if_true] at q ⊢
          refine ⟨ρ', st3, mu3, E'.ext x3, R3, ?_⟩
          refine run_mono (run_hide (o := dHO D o) erase_same q3 (run_bind q) (Ext.again q1 q2)) fun y st4 mu4 H4 x4 R4 qq yv hyv => ?_
          obtain ⟨p1, p2, p3, p4, p⟩ := qq
          refine ⟨ρ', st4, mu4, (E'.ext x3).ext x4, R4, ?_⟩
          refine run_mono (run_hide (o := dHO D o) erase_same p3 (run_bind p) (Ext.again p1 p2)) fun z st5 mu5 H5 x5 R5 qq zv hzv => ?_
          obtain ⟨u1, u2, u3, u4, u⟩ := qq
          have fin := run_pure u u3
          dsimp only at fin
          obtain ⟨⟨fam, hz⟩, fin⟩ := fin
          have xall : Ext mu2 Hs (unhide D mu5) (erase D H5) := (q4.trans p4).trans u4
          have back : Ext mu2 Hs mu5 H5 := (xall.trans (Ext.hide (o := dHO D o) erase_same)).trans (Ext.again u1 u2)
          refine ⟨mu5, ks, us, kv, vv, y, ⟨at_ _ u2, nd, r1.ext back, r2.ext back⟩, fam, hyv.ext x5, hz, fun o' kv' nd' dn' at' => ?_⟩
          refine ⟨unhide D mu5, erase D H5, st5, putKs y ks, putV y ks us z, kv', putV y ks vv zv, o', upd_erase, erase_same, x2.trans xall, u3, dn'.erase u1, dens_putV y ks (r2.ext xall) (hzv.erase u1), nd', putKs_fam fam, at', ?_⟩
          rw [putK_eq] at fin
          exact fin
    · have e : i = src.items.length := by omega
      subst e
      rw [List.drop_length] at hr
      obtain ⟨ck, hr⟩ := compD_nil hr
      refine .inl ⟨hJ.stop (hide D mu2) (upd Hs D (dHO D o)) st2 (x2.trans (Ext.hide hs2)).w (R2.hide hs2) ck, ?_⟩
      exact run_newK (run_ok hr R2) R2 r1 r2 nd ok hs2 at_
end
end PI
set_option Elab.async false
set_option linter.all false
set_option maxRecDepth 100000
set_option maxHeartbeats 8000000
/-! PI, part Y: expressions by the translator. -/
namespace PI
open PySem PySem.Spec PyProof.Rows L2
/-- a call of a def of the program, what it promises -/
def spF (w : World) (K : PySem.W.Frag) (F : Cf) (f : Str) (np : Nat) : Sp := fun vs H Q E => vs.length = np ∧ ∃ mu st l m W, Dens w K mu H vs l ∧ RSt w K mu H st ∧ run w K (F.cl m f l st) mu H W (QV w K Q) ∧
  ∀ c as st' mu' H' cls d, W c as st' mu' H' → RSt w K mu' H' st' → XR K c as cls d → E cls d H'
/-- the def stands and keeps its promise -/
def CallOk (X : Cx) (F : Cf) (f : Str) (np : Nat) : Prop := ∃ (fa : Addr) (fd : FuncData) (ps : List Str) (k : Nat), X.mg f = some (.ref fa) ∧ PySem.W.keepIn X.K (.ref fa) = true ∧
  FnOk X.prog X.w X.K X.mg X.base (L2.CX X.prog X.w) k fa fd ps (spF X.w X.K F f np) ∧ Room k X.A ∧ Binds X.K fd ps [] ∧ ∀ m l st, F.cl m f l st ≠ .bad → l.length = np
/-- what a translated text asks of where it stands -/
structure Ctx (c : Tc) (X : Cx) (sc : Scope) (W : WS) (F : Cf) : Prop where
  N : X.N = c.N
  nd : c.N.Nodup
  sc : X.env.scope = sc
  kind : X.env.scope.kind = .function
  calm : X.calm = true
  u1 : X.A.units + 65 < cLine
  u2 : X.A.in1.units + 8 < cLine
  gc : ∀ x d, c.gc.lookup x = some d → ∃ v u, X.mg x = some u ∧ RelV v u ∧ ∀ mu H, Den X.w X.K mu H v d
  fr : ∀ x, c.free.contains x = true → X.mg x = none
  own : ∀ f k, c.own.lookup f = some k → CallOk X F f k
  tk : TakesI X W
theorem Ctx.nd' {c : Tc} {X : Cx} {sc : Scope} {W : WS} {F : Cf} (C : Ctx c X sc W F) : X.N.Nodup := by rw [C.N]; exact C.nd
abbrev noWS : WS := fun _ _ _ _ _ _ => False
theorem takes_no {X : Cx} : TakesI X noWS := fun u s' ⟨_, _, _, _, _, _, _, _, _, _, _, _, _, _, _, _, w⟩ => by
  obtain ⟨_, _, _, _, _, _, z⟩ := w
  exact z.elim
theorem Ctx.blk {c : Tc} {X : Cx} {sc scope : Scope} {W : WS} {F : Cf} {own : List (Str × Nat)} (C : Ctx c X sc W F) (ok : BlkOk X.N X.env.scope scope own) (s : Shared) (H : Hp) (Ca : Addr) (cl : List (Str × Addr)) (fp : List Addr) : Ctx c (X.blk s H scope (compEnvC scope cl Ca X.env) fp) (relS scope sc) noWS F := by
  have hs : sc = X.env.scope := C.sc.symm
  subst hs
  exact ⟨C.N, C.nd, rfl, ok.kind, C.calm, C.u1, C.u2, C.gc, C.fr, C.own, takes_no⟩
theorem asg_blk {c : Tc} {X : Cx} {sc scope : Scope} {W : WS} {F : Cf} (C : Ctx c X sc W F) (s : Shared) (H : Hp) (Ca : Addr) (cl : List (Str × Addr)) (fp : List Addr) : AsgOk (X.blk s H scope (compEnvC scope cl Ca X.env) fp) scope := fun x hx => by
  have h : scope.names.lookup x = some .local ∨ scope.names.lookup x = some .cell := by
    unfold isLoc at hx
    cases e : scope.names.lookup x with
    | none => rw [e] at hx; cases hx
    | some k => cases k <;> first | exact .inl rfl | exact .inr rfl | (rw [e] at hx; cases hx)
  rcases h with h | h
  · have h2 := lookup_relS_keep (sc := X.env.scope) (k := .local) (by decide) h
    exact ⟨.inl h2, .inr h2⟩
  · have h2 := lookup_relS_keep (sc := X.env.scope) (k := .cell) (by decide) h
    exact ⟨.inr h2, .inl (by show (scope.names.lookup x == some .cell) = true; rw [h]; rfl)⟩
section
variable {c : Tc} {X : Cx} {sc : Scope} {W : WS} {F : Cf} {x : Expr}
theorem pe_bad : PE X x (tE X.w X.K (evE F .bad) W) := ⟨fun _ _ _ _ _ _ h => by
  obtain ⟨_, _, _, _, _, h⟩ := h
  rw [evE] at h
  exact h.elim⟩
theorem pe_const {v : V} {d : D} (h : PE X x (tC v)) (hd : ∀ mu H, Den X.w X.K mu H v d) : PE X x (tE X.w X.K (evE F (.c d)) W) := h.imp fun σ H Q q => by
  obtain ⟨ρ, st, mu, E, R, q⟩ := q
  rw [evE] at q
  exact run_pure q R _ (hd mu H)
theorem gl_of (C : Ctx c X sc W F) {y : Str} (h : isGl sc y = true) : Gl X y := by
  have e := of_decide_eq_true h
  show X.env.scope.names.lookup y = some .globalImplicit
  rw [C.sc]; exact e
theorem vis_of (C : Ctx c X sc W F) {y : Str} (h : isVis sc y = true) : Vis X.env.scope y := by
  rw [C.sc]
  unfold isVis at h
  cases e : sc.names.lookup y with
  | none => rw [e] at h; cases h
  | some k => cases k <;> first | exact .inl e | exact .inr (.inl e) | exact .inr (.inr e) | (rw [e] at h; cases h)
theorem okName_d {y : Str} (h : okName y = true) : (y == ("__debug__" : Str)) = false ∧ (y == ("__classdict__" : Str)) = false ∧ y ≠ "__name__" := by
  unfold okName at h
  simp only [Bool.and_eq_true, Bool.not_eq_true', decide_eq_false_iff_not] at h
  exact ⟨h.1.1, h.1.2, h.2⟩
theorem pe_name (C : Ctx c X sc W F) {id : Str} {p : Pos} (n : Nat) : PE X (.Name id p) (tE X.w X.K (evE F (eOf c (n + 1) sc (.Name id p))) W) := by
  unfold eOf
  dsimp only
  split
  · exact pe_bad
  · rename_i hk
    obtain ⟨k1, k2, k3⟩ := okName_d (Bool.of_not_eq_false hk)
    split
    · rename_i hv
      cases e : slot c.N id with
      | none => exact pe_bad
      | some i =>
        refine (pe_var (by rw [C.N]; exact slot_get e) (vis_of C hv) k1 k2).imp fun σ H Q q => ?_
        obtain ⟨ρ, st, mu, E, R, q⟩ := q
        rw [evE] at q
        cases e1 : ρ[i]? with
        | none => rw [e1] at q; exact q.elim
        | some o => cases o with
          | none => rw [e1] at q; exact q.elim
          | some d =>
            rw [e1] at q
            obtain ⟨v, e2, e3⟩ := E.rel i d e1
            exact ⟨v, e2, run_pure q R v e3⟩
    · split
      · rename_i hg
        cases e : c.gc.lookup id with
        | none => exact pe_bad
        | some d =>
          obtain ⟨v, u, h1, h2, h3⟩ := C.gc id d e
          exact pe_const (pe_glob (gl_of C hg) h1 h2 k1) h3
      · exact pe_bad
/-- no stars, or no answer -/
theorem pa_nilD : PA X [] (tA X.w X.K (evEs F .nil) W) := ⟨fun pos pins s σ H Q I q => pa_nil.run pos pins s σ H Q I (by
  obtain ⟨ρ, st, mu, E, R, q⟩ := q
  rw [evEs] at q
  exact run_pure q R _ .nil)⟩
theorem pa_badD {es : List Expr} : PA X es (tA X.w X.K (evEs F (.cons .bad .nil)) W) := ⟨fun pos pins s σ H Q I q => by
  obtain ⟨ρ, st, mu, E, R, q⟩ := q
  rw [evEs] at q
  have z := run_bind q
  rw [evE] at z
  exact z.elim⟩
theorem tA_cons {e : E} {r : Es} {σ : L2.St} {H : Hp} {Q : List V → Hp → Prop} (q : tA X.w X.K (evEs F (.cons e r)) W σ H Q) : tCons (tE X.w X.K (evE F e) W) (tA X.w X.K (evEs F r) W) σ H Q := by
  obtain ⟨ρ, st, mu, E, R, q⟩ := q
  rw [evEs] at q
  exact ⟨ρ, st, mu, E, R, run_mono (run_bind q) fun d st1 mu1 H1 x1 R1 q v hv => ⟨ρ, st1, mu1, E.ext x1, R1, run_mono (run_bind q) fun l st2 mu2 H2 x2 R2 q vs hvs => run_pure q R2 _ (.cons (hv.ext x2) hvs)⟩⟩
/-- the value of a test -/
theorem tT_val {xa : Env → M D} {σ : L2.St} {H : Hp} {Q : Bool → Hp → Prop} (q : tT X.w X.K (fun ρ => do let x ← xa ρ; truth x) W σ H Q) : tE X.w X.K xa W σ H fun v H' => ∃ k, TruV X.K v H' k ∧ Q k H' := by
  obtain ⟨ρ, st, mu, E, R, q⟩ := q
  refine ⟨ρ, st, mu, E, R, run_mono (run_bind q) fun d st1 mu1 H1 x1 R1 q v hv => ?_⟩
  cases hv with
  | non => exact ⟨false, rfl, run_pure q R1⟩
  | bl b => exact ⟨b, rfl, run_pure q R1⟩
  | int i => exact ⟨i != 0, rfl, run_pure q R1⟩
  | _ => exact q.elim
def E.logic : E → Bool
  | .and _ _ => true
  | .or _ _ => true
  | .not _ => true
  | .ite _ _ _ => true
  | _ => false
theorem evT_plain {e : E} (h : e.logic = false) : evT F e = (fun ρ => (evE F e ρ >>= fun x => truth x)) := by
  funext ρ
  cases e with
  | and a b => exact Bool.noConfusion (show true = false from h)
  | or a b => exact Bool.noConfusion (show true = false from h)
  | not a => exact Bool.noConfusion (show true = false from h)
  | ite t a b => exact Bool.noConfusion (show true = false from h)
  | _ => rw [evT] <;> (intros; contradiction)
end
end PI
set_option Elab.async false
set_option linter.all false
set_option maxRecDepth 100000
set_option maxHeartbeats 8000000
/-! PI, part Z: expressions by the translator, the cases. -/
namespace PI
open PySem PySem.Spec PyProof.Rows L2
/-- a bound of a slice by the interpreter -/
def tOo (X : Cx) (x : Env → M (Option Int)) (W : WS) : TO := fun σ H Q => ∃ ρ st mu, REs X.w X.K mu H ρ σ ∧ RSt X.w X.K mu H st ∧ run X.w X.K (x ρ st) mu H (W σ) fun o _ _ H' => Q o H'
structure Sound (c : Tc) (F : Cf) (n : Nat) : Prop where
  pe : ∀ {X : Cx} {sc : Scope} {W : WS} (x : Expr), Ctx c X sc W F → PE X x (tE X.w X.K (evE F (eOf c n sc x)) W)
  pt : ∀ {X : Cx} {sc : Scope} {W : WS} (x : Expr), Ctx c X sc W F → PT X x (tT X.w X.K (evT F (eOf c n sc x)) W)
  pw : ∀ {X : Cx} {sc : Scope} {W : WS} (op : BoolOp) (es : List Expr) (pos : Pos), Ctx c X sc W F → PW X (.BoolOp op es pos) (tT X.w X.K (evT F (eOf c n sc (.BoolOp op es pos))) W)
  pa : ∀ {X : Cx} {sc : Scope} {W : WS} (es : List Expr), Ctx c X sc W F → PA X es (tA X.w X.K (evEs F (esOf c n sc es)) W)
  po : ∀ {X : Cx} {sc : Scope} {W : WS} (o : Option Expr), Ctx c X sc W F → PO X o (tOo X (evEo F (eoOf c n sc o)) W)
  pts : ∀ {X : Cx} {sc : Scope} {W : WS} (es : List Expr), Ctx c X sc W F → PTs X es (tT X.w X.K (evTs F (tsts c n sc es)) W)
  pi : ∀ {X : Cx} {sc : Scope} {W : WS} (tg x : Expr), Ctx c X sc W F → PI X tg x (tI X (evIt F (itOf c (isTupE tg) n sc x)) W)
section
variable {c : Tc} {X : Cx} {sc : Scope} {W : WS} {F : Cf} {n : Nat}
theorem run_badE {α : Type} {mu : Mu} {H : Hp} {st : Store} {Wd : WD} {Q : α → Store → Mu → Hp → Prop} (h : run X.w X.K ((mbad : M α) st) mu H Wd Q) : False := h
theorem tT_bad {σ : L2.St} {H : Hp} {Q : Bool → Hp → Prop} (q : tT X.w X.K (evT F .bad) W σ H Q) : False := by
  obtain ⟨_, _, _, _, _, h⟩ := q
  rw [evT_plain rfl] at h
  have z := run_bind h
  rw [evE] at z
  exact z.elim
theorem pi_badD {tg x : Expr} : PI X tg x (tI X (evIt F .bad) W) := ⟨fun _ _ _ _ _ _ h => by
  obtain ⟨_, _, _, _, _, h⟩ := h
  rw [evIt] at h
  exact h.elim⟩
theorem sound_zero : Sound c F 0 where
  pe := fun x C => pe_bad
  pt := fun x C => ⟨fun _ _ _ _ _ _ h => (tT_bad h).elim⟩
  pw := fun op es pos C => ⟨fun _ _ _ _ _ _ _ h => (tT_bad h).elim⟩
  pa := fun es C => pa_badD
  po := fun {X sc W} o C => ⟨fun _ _ _ _ _ _ h => by
    obtain ⟨_, _, _, _, _, h⟩ := h
    have e : eoOf c 0 sc o = .some .bad := rfl
    rw [e, evEo] at h
    have z := run_bind h
    rw [evE] at z
    exact z.elim⟩
  pts := fun {X sc W} es C => ⟨fun _ _ _ _ _ _ h => by
    have e : tsts c 0 sc es = .cons .bad .nil := rfl
    obtain ⟨a1, a2, a3, a4, a5, h⟩ := h
    rw [e, evTs] at h
    exact (tT_bad ⟨a1, a2, a3, a4, a5, h⟩).elim⟩
  pi := fun tg x C => pi_badD
/-! ### values -/
theorem pe_constant (C : Ctx c X sc W F) {v : Const} {k : Nat} {p : Pos} : PE X (.Constant v k p) (tE X.w X.K (evE F (eOf c (n + 1) sc (.Constant v k p))) W) := by
  cases v with
  | int i => exact pe_const pe_int fun _ _ => .int i
  | bool b => exact pe_const pe_bl fun _ _ => .bl b
  | none => exact pe_const pe_non fun _ _ => .non
  | str s => exact pe_const pe_str fun _ _ => .str s
  | _ => exact pe_bad
theorem pe_binop (S : Sound c F n) (C : Ctx c X sc W F) {a b : Expr} {op : Operator} {p : Pos} : PE X (.BinOp a op b p) (tE X.w X.K (evE F (eOf c (n + 1) sc (.BinOp a op b p))) W) := by
  unfold eOf
  dsimp only
  cases e : opOf op with
  | none => exact pe_bad
  | some o =>
    obtain rfl := pyOp_of e
    refine (pe_op (opD (m := c.m p) o) (S.pe a C) (S.pe b C)).imp fun σ H Q q => tE_two ?_
    obtain ⟨ρ, st, mu, E, R, q⟩ := q
    rw [evE] at q
    exact ⟨ρ, st, mu, E, R, q⟩
theorem pe_unary (S : Sound c F n) (C : Ctx c X sc W F) {a : Expr} {op : UnaryOp} {p : Pos} : PE X (.UnaryOp op a p) (tE X.w X.K (evE F (eOf c (n + 1) sc (.UnaryOp op a p))) W) := by
  cases op with
  | Not =>
    refine (pe_not (S.pe a C)).imp fun σ H Q q => ?_
    obtain ⟨ρ, st, mu, E, R, q⟩ := q
    have e : eOf c (n + 1) sc (.UnaryOp .Not a p) = .not (eOf c n sc a) := rfl
    rw [e, evE] at q
    refine ⟨ρ, st, mu, E, R, run_mono (run_bind q) fun d st1 mu1 H1 x1 R1 q v hv => ?_⟩
    cases hv with
    | bl b => exact ⟨b, rfl, run_pure q R1 _ (.bl _)⟩
    | _ => exact q.elim
  | USub =>
    refine (pe_un unD_neg (S.pe a C)).imp fun σ H Q q => tE_un ?_
    obtain ⟨ρ, st, mu, E, R, q⟩ := q
    have e : eOf c (n + 1) sc (.UnaryOp .USub a p) = .un .neg (eOf c n sc a) := rfl
    rw [e, evE] at q
    exact ⟨ρ, st, mu, E, R, q⟩
  | Invert =>
    refine (pe_un unD_inv (S.pe a C)).imp fun σ H Q q => tE_un ?_
    obtain ⟨ρ, st, mu, E, R, q⟩ := q
    have e : eOf c (n + 1) sc (.UnaryOp .Invert a p) = .un .inv (eOf c n sc a) := rfl
    rw [e, evE] at q
    exact ⟨ρ, st, mu, E, R, q⟩
  | UAdd => exact pe_bad
theorem pe_boolop (S : Sound c F n) (C : Ctx c X sc W F) {op : BoolOp} {es : List Expr} {p : Pos} : PE X (.BoolOp op es p) (tE X.w X.K (evE F (eOf c (n + 1) sc (.BoolOp op es p))) W) := by
  match op, es with
  | .And, [] => exact pe_bad
  | .Or, [] => exact pe_bad
  | .And, [a] => exact pe_one (S.pe a C)
  | .Or, [a] => exact pe_one (S.pe a C)
  | .And, a :: b :: r =>
    refine (pe_and (S.pe a C) (S.pe (.BoolOp .And (b :: r) p) C)).imp fun σ H Q q => ?_
    obtain ⟨ρ, st, mu, E, R, q⟩ := q
    have e : eOf c (n + 1) sc (.BoolOp .And (a :: b :: r) p) = .and (eOf c n sc a) (eOf c n sc (.BoolOp .And (b :: r) p)) := rfl
    rw [e, evE] at q
    refine ⟨ρ, st, mu, E, R, run_mono (run_bind q) fun d st1 mu1 H1 x1 R1 q v hv => ?_⟩
    cases hv with
    | bl k =>
      refine ⟨k, rfl, ?_⟩
      cases k with
      | true => exact ⟨ρ, st1, mu1, E.ext x1, R1, q⟩
      | false => exact run_pure q R1 _ (.bl _)
    | _ => exact q.elim
  | .Or, a :: b :: r =>
    refine (pe_or (S.pe a C) (S.pe (.BoolOp .Or (b :: r) p) C)).imp fun σ H Q q => ?_
    obtain ⟨ρ, st, mu, E, R, q⟩ := q
    have e : eOf c (n + 1) sc (.BoolOp .Or (a :: b :: r) p) = .or (eOf c n sc a) (eOf c n sc (.BoolOp .Or (b :: r) p)) := rfl
    rw [e, evE] at q
    refine ⟨ρ, st, mu, E, R, run_mono (run_bind q) fun d st1 mu1 H1 x1 R1 q v hv => ?_⟩
    cases hv with
    | bl k =>
      refine ⟨k, rfl, ?_⟩
      cases k with
      | true => exact run_pure q R1 _ (.bl _)
      | false => exact ⟨ρ, st1, mu1, E.ext x1, R1, q⟩
    | _ => exact q.elim
theorem pw_boolop (S : Sound c F n) (C : Ctx c X sc W F) {op : BoolOp} {es : List Expr} {p : Pos} : PW X (.BoolOp op es p) (tT X.w X.K (evT F (eOf c (n + 1) sc (.BoolOp op es p))) W) := by
  match op, es with
  | .And, [] => exact ⟨fun _ _ _ _ _ _ _ h => (tT_bad h).elim⟩
  | .Or, [] => exact ⟨fun _ _ _ _ _ _ _ h => (tT_bad h).elim⟩
  | .And, [a] => exact pw_and1 (S.pt a C)
  | .Or, [a] => exact pw_or1 (S.pt a C)
  | .And, a :: b :: r =>
    refine ⟨fun wh pins s σ H Q I q => (pw_and (S.pt a C) (S.pw .And (b :: r) p C)).run wh pins s σ H Q I ?_⟩
    obtain ⟨ρ, st, mu, E, R, q⟩ := q
    have e : eOf c (n + 1) sc (.BoolOp .And (a :: b :: r) p) = .and (eOf c n sc a) (eOf c n sc (.BoolOp .And (b :: r) p)) := rfl
    rw [e, evT] at q
    refine ⟨ρ, st, mu, E, R, run_mono (run_bind q) fun k st1 mu1 H1 x1 R1 q => ?_⟩
    cases k with
    | true => exact ⟨ρ, st1, mu1, E.ext x1, R1, q⟩
    | false => exact run_pure q R1
  | .Or, a :: b :: r =>
    refine ⟨fun wh pins s σ H Q I q => (pw_or (S.pt a C) (S.pw .Or (b :: r) p C)).run wh pins s σ H Q I ?_⟩
    obtain ⟨ρ, st, mu, E, R, q⟩ := q
    have e : eOf c (n + 1) sc (.BoolOp .Or (a :: b :: r) p) = .or (eOf c n sc a) (eOf c n sc (.BoolOp .Or (b :: r) p)) := rfl
    rw [e, evT] at q
    refine ⟨ρ, st, mu, E, R, run_mono (run_bind q) fun k st1 mu1 H1 x1 R1 q => ?_⟩
    cases k with
    | true => exact run_pure q R1
    | false => exact ⟨ρ, st1, mu1, E.ext x1, R1, q⟩
/-! ### comparisons -/
section
variable {P : D → Store → Mu → Hp → Prop} {Q : VK} {σ : L2.St} {H : Hp} {ρ : Env} {st : Store} {mu : Mu} {Wd : WS}
theorem post_isN {neg : Bool} {a : E} (E : REs X.w X.K mu H ρ σ) (R : RSt X.w X.K mu H st) (q : run X.w X.K (evE F (.isN neg a) ρ st) mu H (W σ) P) (k : ∀ b st mu H, RSt X.w X.K mu H st → P (.bl b) st mu H → Q (.bl b) H) :
    tE X.w X.K (evE F a) W σ H fun x H1 => Q (.bl (if neg = true then !decide (x = .non) else decide (x = .non))) H1 := by
  rw [evE] at q
  refine ⟨ρ, st, mu, E, R, run_mono (run_bind q) fun d st1 mu1 H1 x1 R1 q v hv => ?_⟩
  show Q (.bl (if neg = true then !decide (v = .non) else decide (v = .non))) H1
  rw [← non_iff hv]
  exact k _ _ _ _ R1 (run_pure q R1)
theorem post_isB {neg b : Bool} {a : E} (E : REs X.w X.K mu H ρ σ) (R : RSt X.w X.K mu H st) (q : run X.w X.K (evE F (.isB neg b a) ρ st) mu H (W σ) P) (k : ∀ b st mu H, RSt X.w X.K mu H st → P (.bl b) st mu H → Q (.bl b) H) :
    tE X.w X.K (evE F a) W σ H fun x H1 => ∃ y, x = .bl y ∧ Q (.bl (if neg = true then !decide (y = b) else decide (y = b))) H1 := by
  rw [evE] at q
  refine ⟨ρ, st, mu, E, R, run_mono (run_bind q) fun d st1 mu1 H1 x1 R1 q v hv => ?_⟩
  cases hv with
  | bl y => exact ⟨y, rfl, k _ _ _ _ R1 (run_pure q R1)⟩
  | _ => exact q.elim
theorem post_cmp {o : Cm} {a b : E} (E : REs X.w X.K mu H ρ σ) (R : RSt X.w X.K mu H st) (q : run X.w X.K (evE F (.cmp o a b) ρ st) mu H (W σ) P) (k : ∀ b st mu H, RSt X.w X.K mu H st → P (.bl b) st mu H → Q (.bl b) H) :
    tOp (rOpB X (cmpD o)) (tE X.w X.K (evE F a) W) (tE X.w X.K (evE F b) W) σ H Q := by
  rw [evE] at q
  exact ⟨ρ, st, mu, E, R, run_mono (run_bind q) fun x st1 mu1 H1 x1 R1 q v hv => ⟨ρ, st1, mu1, E.ext x1, R1, run_mono (run_bind q) fun y st2 mu2 H2 x2 R2 q u hu =>
    ⟨mu2, st2, x, y, W σ, hv.ext x2, hu, R2, run_mono (run_bind q) fun c st3 mu3 H3 x3 R3 q => k _ _ _ _ R3 (run_pure q R3)⟩⟩⟩
theorem post_cmp2 {o o' : Cm} {a b d : E} (E : REs X.w X.K mu H ρ σ) (R : RSt X.w X.K mu H st) (q : run X.w X.K (evE F (.cmp2 o o' a b d) ρ st) mu H (W σ) P) (k : ∀ b st mu H, RSt X.w X.K mu H st → P (.bl b) st mu H → Q (.bl b) H) :
    tChain (rOpB X (cmpD o)) (rOpB X (cmpD o')) (tE X.w X.K (evE F a) W) (tE X.w X.K (evE F b) W) (tE X.w X.K (evE F d) W) σ H Q := by
  rw [evE] at q
  refine ⟨ρ, st, mu, E, R, run_mono (run_bind q) fun x st1 mu1 H1 x1 R1 q v hv => ⟨ρ, st1, mu1, E.ext x1, R1, run_mono (run_bind q) fun y st2 mu2 H2 x2 R2 q u hu => ?_⟩⟩
  refine ⟨mu2, st2, x, y, W σ, hv.ext x2, hu, R2, run_mono (run_bind q) fun g st3 mu3 H3 x3 R3 q => ⟨g, rfl, ?_⟩⟩
  cases g with
  | false => exact k _ _ _ _ R3 (run_pure q R3)
  | true =>
    refine ⟨ρ, st3, mu3, ((E.ext x1).ext x2).ext x3, R3, run_mono (run_bind q) fun z st4 mu4 H4 x4 R4 q w' hw => ?_⟩
    exact ⟨mu4, st4, y, z, W σ, (hu.ext x3).ext x4, hw, R4, run_mono (run_bind q) fun j st5 mu5 H5 x5 R5 q => k _ _ _ _ R5 (run_pure q R5)⟩
end
/-- an expression whose value is a bool: as a value and as a test, from one reading of its answer -/
theorem both {x : Expr} {e : E} {t : TE} (hl : e.logic = false) (pe : PE X x t) (pt : PT X x (tTest t))
    (k : ∀ (σ : L2.St) (H : Hp) (Q : VK) (P : D → Store → Mu → Hp → Prop) (ρ : Env) (st : Store) (mu : Mu), REs X.w X.K mu H ρ σ → RSt X.w X.K mu H st → run X.w X.K (evE F e ρ st) mu H (W σ) P → (∀ b st mu H, RSt X.w X.K mu H st → P (.bl b) st mu H → Q (.bl b) H) → t σ H Q) :
    PE X x (tE X.w X.K (evE F e) W) ∧ PT X x (tT X.w X.K (evT F e) W) := by
  refine ⟨pe.imp fun σ H Q q => ?_, pt.imp fun σ H Q q => ?_⟩
  · obtain ⟨ρ, st, mu, E, R, q⟩ := q
    exact k σ H Q _ ρ st mu E R q fun b st mu H R p => p _ (.bl b)
  · obtain ⟨ρ, st, mu, E, R, q⟩ := q
    rw [evT_plain hl] at q
    exact k σ H _ _ ρ st mu E R (run_bind q) fun b st mu H R p => ⟨b, rfl, run_pure p R⟩
theorem bad_both {x : Expr} : PE X x (tE X.w X.K (evE F .bad) W) ∧ PT X x (tT X.w X.K (evT F .bad) W) := ⟨pe_bad, ⟨fun _ _ _ _ _ _ h => (tT_bad h).elim⟩⟩
abbrev Both (X : Cx) (W : WS) (F : Cf) (x : Expr) (e : E) : Prop := PE X x (tE X.w X.K (evE F e) W) ∧ PT X x (tT X.w X.K (evT F e) W)
theorem both_gen (S : Sound c F n) (C : Ctx c X sc W F) {a b : Expr} {op : CmpOp} {p : Pos} : Both X W F (.Compare a [op] [b] p) (if behindInMarks op b = true then .bad else (match cmOf op with
      | some o => .cmp o (eOf c n sc a) (eOf c n sc b)
      | none => .bad)) := by
  split
  · exact bad_both
  · rename_i hm
    have hm := Bool.eq_false_iff.mpr hm
    cases e : cmOf op with
    | none => exact bad_both
    | some o =>
      obtain rfl := pyCm_of e
      exact both rfl (pe_cmpR (cmpR C.u1 C.u2 o) (S.pe a C) (S.pe b C) hm) (pt_cmpR (cmpR C.u1 C.u2 o) (S.pe a C) (S.pe b C) hm) fun σ H Q P ρ st mu E R q k => post_cmp E R q k
theorem both_cmp (S : Sound c F n) (C : Ctx c X sc W F) {a : Expr} {ops : List CmpOp} {bs : List Expr} {p : Pos} : Both X W F (.Compare a ops bs p) (eOf c (n + 1) sc (.Compare a ops bs p)) := by
  have isN : ∀ (k : Nat) (q : Pos), Both X W F (.Compare a [.Is] [.Constant .none k q] p) (.isN false (eOf c n sc a)) := fun k q =>
    both rfl (pe_cmpR op_isN (S.pe a C) pe_non rfl) (pt_cmpR op_isN (S.pe a C) pe_non rfl) fun σ H Q P ρ st mu E R h k => by
      obtain ⟨ρ', st', mu', E', R', z⟩ := post_isN E R h k
      exact ⟨ρ', st', mu', E', R', run_mono z fun d st1 mu1 H1 x1 R1 q v hv => ⟨rfl, q v hv⟩⟩
  have notN : ∀ (k : Nat) (q : Pos), Both X W F (.Compare a [.IsNot] [.Constant .none k q] p) (.isN true (eOf c n sc a)) := fun k q =>
    both rfl (pe_cmpR op_notN (S.pe a C) pe_non rfl) (pt_cmpR op_notN (S.pe a C) pe_non rfl) fun σ H Q P ρ st mu E R h k => by
      obtain ⟨ρ', st', mu', E', R', z⟩ := post_isN E R h k
      exact ⟨ρ', st', mu', E', R', run_mono z fun d st1 mu1 H1 x1 R1 q v hv => ⟨rfl, q v hv⟩⟩
  have isB : ∀ (b : Bool) (k : Nat) (q : Pos), Both X W F (.Compare a [.Is] [.Constant (.bool b) k q] p) (.isB false b (eOf c n sc a)) := fun b k q =>
    both rfl (pe_cmpR op_isBl (S.pe a C) pe_bl rfl) (pt_cmpR op_isBl (S.pe a C) pe_bl rfl) fun σ H Q P ρ st mu E R h k => by
      obtain ⟨ρ', st', mu', E', R', z⟩ := post_isB E R h k
      exact ⟨ρ', st', mu', E', R', run_mono z fun d st1 mu1 H1 x1 R1 q v hv => by
        obtain ⟨y, e, q⟩ := q v hv
        exact ⟨y, b, e, rfl, q⟩⟩
  have notB : ∀ (b : Bool) (k : Nat) (q : Pos), Both X W F (.Compare a [.IsNot] [.Constant (.bool b) k q] p) (.isB true b (eOf c n sc a)) := fun b k q =>
    both rfl (pe_cmpR op_notBl (S.pe a C) pe_bl rfl) (pt_cmpR op_notBl (S.pe a C) pe_bl rfl) fun σ H Q P ρ st mu E R h k => by
      obtain ⟨ρ', st', mu', E', R', z⟩ := post_isB E R h k
      exact ⟨ρ', st', mu', E', R', run_mono z fun d st1 mu1 H1 x1 R1 q v hv => by
        obtain ⟨y, e, q⟩ := q v hv
        exact ⟨y, b, e, rfl, q⟩⟩
  have gen := fun op b => both_gen S C (a := a) (b := b) (op := op) (p := p)
  match ops, bs with
  | [op], [b] =>
    cases op with
    | Is =>
      cases b with
      | Constant v k q =>
        cases v with
        | none => exact isN k q
        | bool b => exact isB b k q
        | _ => exact gen .Is _
      | _ => exact gen .Is _
    | IsNot =>
      cases b with
      | Constant v k q =>
        cases v with
        | none => exact notN k q
        | bool b => exact notB b k q
        | _ => exact gen .IsNot _
      | _ => exact gen .IsNot _
    | Eq => exact gen .Eq b
    | NotEq => exact gen .NotEq b
    | Lt => exact gen .Lt b
    | LtE => exact gen .LtE b
    | Gt => exact gen .Gt b
    | GtE => exact gen .GtE b
    | In => exact gen .In b
    | NotIn => exact gen .NotIn b
  | [o1, o2], [b, d] =>
    have e : eOf c (n + 1) sc (.Compare a [o1, o2] [b, d] p) = (if lastMarks [o1, o2] [b, d] = true then .bad else (match cmOf o1, cmOf o2 with
      | some p, some q => .cmp2 p q (eOf c n sc a) (eOf c n sc b) (eOf c n sc d)
      | _, _ => .bad)) := by cases o1 <;> cases o2 <;> rfl
    rw [e]
    split
    · exact bad_both
    · rename_i hm
      have hm := Bool.eq_false_iff.mpr hm
      cases e1 : cmOf o1 with
      | none => exact bad_both
      | some p1 => cases e2 : cmOf o2 with
        | none => exact bad_both
        | some p2 =>
          obtain rfl := pyCm_of e1
          obtain rfl := pyCm_of e2
          exact both rfl (pe_chain (cmpR C.u1 C.u2 p1) (cmpR C.u1 C.u2 p2) (S.pe a C) (S.pe b C) (S.pe d C) hm) (pt_chain (cmpR C.u1 C.u2 p1) (cmpR C.u1 C.u2 p2) (S.pe a C) (S.pe b C) (S.pe d C) hm) fun σ H Q P ρ st mu E R q k => post_cmp2 E R q k
  | [], bs => cases bs <;> exact bad_both
  | [op], [] => cases op <;> exact bad_both
  | [op], b1 :: _ :: _ =>
    cases op <;> first
      | exact bad_both
      | (cases b1 <;> first
          | exact bad_both
          | (rename_i v _ _; cases v <;> exact bad_both))
  | [o1, o2], [] => cases o1 <;> cases o2 <;> exact bad_both
  | [o1, o2], [_] => cases o1 <;> cases o2 <;> exact bad_both
  | [o1, o2], _ :: _ :: _ :: _ => cases o1 <;> cases o2 <;> exact bad_both
  | o1 :: _ :: _ :: _, bs => cases o1 <;> exact bad_both
end
end PI
set_option Elab.async false
set_option linter.all false
set_option maxRecDepth 100000
set_option maxHeartbeats 8000000
/-! PI, part AA: expressions by the translator, more cases: calls, kinds, subscripts, displays. -/
namespace PI
open PySem PySem.Spec PyProof.Rows L2
section
variable {c : Tc} {X : Cx} {sc : Scope} {W : WS} {F : Cf} {n : Nat} {m : Bool}
/-- an answer that is bad says nothing -/
theorem pe_none {x : Expr} {xa : Env → M D} (h : ∀ ρ st, xa ρ st = .bad) : PE X x (tE X.w X.K xa W) := ⟨fun _ _ _ _ _ _ q => by
  obtain ⟨ρ, st, mu, _, _, q⟩ := q
  rw [h] at q
  exact q.elim⟩
theorem esOf_star {es : List Expr} (h : es.any isStar = true) (n : Nat) : esOf c n sc es = .cons .bad .nil := by
  cases n with
  | zero => rfl
  | succ n =>
    cases es with
    | nil => cases h
    | cons x r =>
      unfold esOf
      rw [if_pos h]
theorem esOf_cons {x : Expr} {r : List Expr} (h : (x :: r).any isStar = false) (n : Nat) : esOf c (n + 1) sc (x :: r) = .cons (eOf c n sc x) (esOf c n sc r) := by
  show (if (x :: r).any isStar = true then Es.cons .bad .nil else .cons (eOf c n sc x) (esOf c n sc r)) = _
  rw [if_neg (by rw [h]; exact Bool.false_ne_true)]
theorem evEs_bad {ρ : Env} {st : Store} : evEs F (.cons .bad .nil) ρ st = .bad := by
  rw [evEs, bind_def]
  have e : evE F .bad ρ st = .bad := by rw [evE]; rfl
  rw [e]
theorem bind_bad {α β : Type} {x : M α} {f : α → M β} {st : Store} (h : x st = .bad) : (x >>= f) st = .bad := by rw [bind_def, h]
/-! ### a if t else b -/
theorem tE_ite {t a b : E} {σ : L2.St} {H : Hp} {Q : VK} (q : tE X.w X.K (evE F (.ite t a b)) W σ H Q) : tIf (tT X.w X.K (evT F t) W) (tE X.w X.K (evE F a) W) (tE X.w X.K (evE F b) W) σ H Q := by
  obtain ⟨ρ, st, mu, E, R, q⟩ := q
  rw [evE] at q
  refine ⟨ρ, st, mu, E, R, run_mono (run_bind q) fun k st1 mu1 H1 x1 R1 q => ?_⟩
  cases k with
  | true => exact ⟨ρ, st1, mu1, E.ext x1, R1, q⟩
  | false => exact ⟨ρ, st1, mu1, E.ext x1, R1, q⟩
def tIfT (t a b : TT) : TT := fun σ H Q => t σ H fun c H1 => if c = true then a σ H1 Q else b σ H1 Q
theorem pt_ifExp {t a b : Expr} {p : Pos} {tt ta tb : TT} (ht : PT X t tt) (ha : PT X a ta) (hb : PT X b tb) : PT X (.IfExp t a b p) (tIfT tt ta tb) := by
  refine ⟨fun pins s σ H Q I h => ?_⟩
  show wpAny _ _ (do if ← isTrue t X.env (eval t X.env) then isTrue a X.env (eval a X.env) else isTrue b X.env (eval b X.env)) _ _ s
  refine wpAny_bind (thn (ht.run pins s σ H _ I h) fun k s1 ⟨H1, I1, q1⟩ => ?_)
  cases k with
  | true => exact ha.run pins s1 σ H1 Q I1 q1
  | false => exact hb.run pins s1 σ H1 Q I1 q1
theorem tT_ite {t a b : E} {σ : L2.St} {H : Hp} {Q : Bool → Hp → Prop} (q : tT X.w X.K (evT F (.ite t a b)) W σ H Q) : tIfT (tT X.w X.K (evT F t) W) (tT X.w X.K (evT F a) W) (tT X.w X.K (evT F b) W) σ H Q := by
  obtain ⟨ρ, st, mu, E, R, q⟩ := q
  rw [evT] at q
  refine ⟨ρ, st, mu, E, R, run_mono (run_bind q) fun k st1 mu1 H1 x1 R1 q => ?_⟩
  cases k with
  | true => exact ⟨ρ, st1, mu1, E.ext x1, R1, q⟩
  | false => exact ⟨ρ, st1, mu1, E.ext x1, R1, q⟩
theorem tT_not {a : E} {σ : L2.St} {H : Hp} {Q : Bool → Hp → Prop} (q : tT X.w X.K (evT F (.not a)) W σ H Q) : tNot (tT X.w X.K (evT F a) W) σ H Q := by
  obtain ⟨ρ, st, mu, E, R, q⟩ := q
  rw [evT] at q
  exact ⟨ρ, st, mu, E, R, run_mono (run_bind q) fun k st1 mu1 H1 x1 R1 q => run_pure q R1⟩
/-! ### built-ins -/
theorem callBi (C : Ctx c X sc W F) {x : Str} {k : Bi} {e : Expr} {es : List Expr} {p pos : Pos} {t : TA} (h : biOf x = some k) (hg : Gl X x) (hm : X.mg x = none) (ha : PA X (e :: es) t) (hs : (e :: es).any isStar = false) : PE X (.Call (.Name x p) (e :: es) [] pos) (tCB (rC X (bi m k)) t) := by
  obtain ⟨s1, s2⟩ := any_star hs
  have he := star_cons s1 es X.env
  have hp := back_any (env := X.env) pos s2
  unfold biOf at h
  split at h
  · rename_i e; subst e; cases h
    exact pe_callB callD_len hg hm boot_len ha (by decide) (by decide) he hp
  split at h
  · rename_i e; subst e; cases h
    exact pe_callB callD_abs hg hm boot_abs ha (by decide) (by decide) he hp
  split at h
  · rename_i e; subst e; cases h
    exact pe_callTy callD_int hg hm PyProof.Rows.boot_int ha (by decide) (by decide) he hp
  split at h
  · rename_i e; subst e; cases h
    exact pe_callB (callD_sum C.calm) hg hm boot_sum ha (by decide) (by decide) he hp
  split at h
  · rename_i e; subst e; cases h
    exact pe_callB (callD_min C.calm) hg hm boot_min ha (by decide) (by decide) he hp
  split at h
  · rename_i e; subst e; cases h
    exact pe_callB (callD_max C.calm) hg hm boot_max ha (by decide) (by decide) he hp
  split at h
  · rename_i e; subst e; cases h
    exact pe_callB (callD_all C.calm) hg hm boot_all ha (by decide) (by decide) he hp
  split at h
  · rename_i e; subst e; cases h
    exact pe_callB (callD_any C.calm) hg hm boot_any ha (by decide) (by decide) he hp
  split at h
  · rename_i e; subst e; cases h
    exact pe_callB (callD_sorted C.calm C.u1) hg hm boot_sorted ha (by decide) (by decide) he hp
  split at h
  · rename_i e; subst e; cases h
    exact pe_callTy callD_tuple hg hm PyProof.Rows.boot_tuple ha (by decide) (by decide) he hp
  split at h
  · rename_i e; subst e; cases h
    exact pe_callTy (callD_list C.calm) hg hm PyProof.Rows.boot_list ha (by decide) (by decide) he hp
  · cases h
theorem free_of (C : Ctx c X sc W F) {f : Str} (h : c.isFree sc f = true) : Gl X f ∧ X.mg f = none := by
  unfold Tc.isFree at h
  obtain ⟨h1, h2⟩ := (Bool.and_eq_true _ _).mp h
  exact ⟨gl_of C h1, C.fr f h2⟩
theorem pe_bi (S : Sound c F n) (C : Ctx c X sc W F) {f : Str} {k : Bi} {e : Expr} {es : List Expr} {p pos : Pos} (h : biOf f = some k) (hf : c.isFree sc f = true) : PE X (.Call (.Name f p) (e :: es) [] pos) (tE X.w X.K (evE F (.bi m k (esOf c n sc (e :: es)))) W) := by
  obtain ⟨hg, hm⟩ := free_of C hf
  by_cases hs : (e :: es).any isStar = true
  · refine pe_none fun ρ st => ?_
    rw [esOf_star hs, evE]
    exact bind_bad evEs_bad
  · refine (callBi (m := m) C h hg hm (S.pa (e :: es) C) (Bool.eq_false_iff.mpr hs)).imp fun σ H Q q => tA_call ?_
    obtain ⟨ρ, st, mu, E, R, q⟩ := q
    rw [evE] at q
    exact ⟨ρ, st, mu, E, R, q⟩
/-! ### defs of the program -/
theorem pe_own (S : Sound c F n) (C : Ctx c X sc W F) {f : Str} {np : Nat} {e : Expr} {es : List Expr} {p pos : Pos} (hk : okName f = true) (hg : isGl sc f = true) (ho : c.own.lookup f = some np) : PE X (.Call (.Name f p) (e :: es) [] pos) (tE X.w X.K (evE F (.own m f (esOf c n sc (e :: es)))) W) := by
  by_cases hs : (e :: es).any isStar = true
  · refine pe_none fun ρ st => ?_
    rw [esOf_star hs, evE]
    exact bind_bad evEs_bad
  · obtain ⟨s1, s2⟩ := any_star (Bool.eq_false_iff.mpr hs)
    obtain ⟨fa, fd, ps, k, h1, h2, h3, h4, h5, h6⟩ := C.own f np ho
    refine (pe_callSD (dvs := []) (ds := []) h3 h4 (gl_of C hg) h1 h2 h5 .nil (fun σ => passAt C.tk σ) (S.pa (e :: es) C) (okName_d hk).1 (star_cons s1 es X.env) (back_any pos s2)).imp fun σ H Q q => ?_
    obtain ⟨ρ, st, mu, E, R, q⟩ := q
    rw [evE] at q
    refine ⟨ρ, st, mu, E, R, run_mono (run_bind q) fun l st1 mu1 H1 x1 R1 q vs hv => ?_⟩
    dsimp only
    rw [List.append_nil]
    refine ⟨hv.length.trans (h6 m l st1 fun z => by rw [z] at q; exact q), mu1, st1, l, m, W σ, hv, R1, q, fun c as st' mu' H' cls d w r x => ⟨c, as, st', mu', x, r, w⟩⟩
end
end PI
set_option Elab.async false
set_option linter.all false
set_option maxRecDepth 100000
set_option maxHeartbeats 8000000
/-! PI, part AB: isinstance, subscripts, displays, methods, min with a default. -/
namespace PI
open PySem PySem.Spec PyProof.Rows L2
section
variable {c : Tc} {X : Cx} {sc : Scope} {W : WS} {F : Cf} {n : Nat} {m : Bool}
/-! ### isinstance -/
def tyName : Ty → String
  | .int => "int"
  | .bool => "bool"
  | .str => "str"
  | .tuple => "tuple"
  | .list => "list"
  | .dict => "dict"
theorem tyOf_is {x : Str} {t : Ty} (h : tyOf x = some t) : bootBuiltins x = some (.type (tyName t)) ∧ okName x = true ∧ x ≠ "__name__" ∧ (x == ("__debug__" : Str)) = false := by
  unfold tyOf at h
  split at h
  · rename_i e; subst e; cases h; exact ⟨PyProof.Rows.boot_int, by decide, by decide, by decide⟩
  split at h
  · rename_i e; subst e; cases h; exact ⟨PyProof.Rows.boot_bool, by decide, by decide, by decide⟩
  split at h
  · rename_i e; subst e; cases h; exact ⟨PyProof.Rows.boot_str, by decide, by decide, by decide⟩
  split at h
  · rename_i e; subst e; cases h; exact ⟨PyProof.Rows.boot_tuple, by decide, by decide, by decide⟩
  split at h
  · rename_i e; subst e; cases h; exact ⟨PyProof.Rows.boot_list, by decide, by decide, by decide⟩
  split at h
  · rename_i e; subst e; cases h; exact ⟨PyProof.Rows.boot_dict, by decide, by decide, by decide⟩
  · cases h
/-- what a kind's test asks of a value -/
def rIsD (X : Cx) (t : Ty) : List V → Hp → VK → Prop := fun xs H Q => ∃ mu st x d W, xs = [x, .ty (tyName t)] ∧ Den X.w X.K mu H x d ∧ RSt X.w X.K mu H st ∧ run X.w X.K (isTy d t st) mu H W fun b _ _ H1 => Q (.bl b) H1
/-- a value's kind -/
inductive Knd (X : Cx) (s : Shared) : Value → String → Prop where
  | mk {u : Value} {k : String} {P : Heap → Prop} (Z : PySem.W.KitX X.K u (.type k) P) (p : P s.heap) (x : u ≠ .builtin "__main__.__loader__#opaque") : Knd X s u k
theorem knd_x {pins : List (Addr × Obj)} {σ : L2.St} {H : Hp} {s : Shared} {x : V} {u : Value} {k : String} (I : Inv X pins σ H s) (rx : RelV x u) (ty : TyX X.K H x (.type k)) : Knd X s u k := by
  obtain ⟨P, Z, p, hx⟩ := kit_of I rx ty
  exact .mk Z p hx
theorem knd_dct {pins : List (Addr × Obj)} {σ : L2.St} {H : Hp} {s : Shared} {a : Addr} {ks : List D} {kv vv : List V} (I : Inv X pins σ H s) (q : DctAt X.w H a ks kv vv) : Knd X s (.ref a) "dict" := by
  obtain ⟨o, es, ep, h1, h2, _⟩ := q
  exact .mk PySem.W.kitx_dict ⟨o, (show ObjOk X.prog X.w H s.heap a (dHO a o) from I.hok a _ h1).1, h2.1⟩ fun z => nomatch z
theorem is_by {pins : List (Addr × Obj)} {σ : L2.St} {H : Hp} {s : Shared} {u : Value} {k : String} {t : Ty} {b : Bool} {Q : VK} (I : Inv X pins σ H s) (h : Knd X s u k) (e : kitB k (tyName t) = some b) (q : Q (.bl b) H) : wpAny (model X.prog X.w) X.A (call (.builtin "isinstance") [u, .type (tyName t)]) (EP X pins σ Q) X.xe s := by
  obtain ⟨Z, p, hx⟩ := h
  exact PySem.W.kia_one Z I.kIn p (kit_ty e) hx fun tk => ⟨.bl b, H, I.tok tk, rfl, q⟩
theorem kit_tab (t : Ty) : kitB "NoneType" (tyName t) = some false ∧ kitB "bool" (tyName t) = some (decide (t = .int) || decide (t = .bool)) ∧ kitB "int" (tyName t) = some (decide (t = .int)) ∧ kitB "str" (tyName t) = some (decide (t = .str)) ∧ kitB "tuple" (tyName t) = some (decide (t = .tuple)) ∧ kitB "list" (tyName t) = some (decide (t = .list)) ∧ kitB "dict" (tyName t) = some (decide (t = .dict)) := by
  cases t <;> exact ⟨by decide +kernel, by decide +kernel, by decide +kernel, by decide +kernel, by decide +kernel, by decide +kernel, by decide +kernel⟩
theorem call_isD (t : Ty) : CallR X (.builtin "isinstance") (rIsD X t) := by
  intro pins s σ H xs us Q I r h
  obtain ⟨mu, st, x, d, W, rfl, hd, R, q⟩ := h
  obtain ⟨u1, u2, rfl, r1, r2⟩ := vals2 r
  cases (show u2 = Value.type (tyName t) from r2)
  obtain ⟨k1, k2, k3, k4, k5, k6, k7⟩ := kit_tab t
  unfold isTy at q
  have q := run_bind q
  cases hd with
  | non =>
    have q := run_pure (run_ok q R) R
    refine is_by I (knd_x I r1 (.base .non)) k1 ?_
    cases t <;> exact q
  | bl b =>
    have q := run_pure (run_ok q R) R
    refine is_by I (knd_x I r1 (.base (.bl b))) k2 ?_
    cases t <;> exact q
  | int i =>
    have q := run_pure (run_ok q R) R
    refine is_by I (knd_x I r1 (.base (.int i))) k3 ?_
    cases t <;> exact q
  | str i =>
    have q := run_pure (run_ok q R) R
    refine is_by I (knd_x I r1 (.base (.str i))) k4 ?_
    cases t <;> exact q
  | @tup a xs l h r =>
    have q := run_pure (run_ok q R) R
    refine is_by I ?_ k5 (by cases t <;> exact q)
    rcases h with ⟨h, n⟩ | ⟨o, its, n, h1, h2, _⟩
    · rcases h with h | ⟨o, h⟩
      · exact knd_x I r1 (.base (.tup h))
      · exact knd_x I r1 (.fTuple h)
    · exact knd_x I r1 (.kTuple h1 h2)
  | @lst a xs l h n r =>
    have q := run_pure (run_ok q R) R
    exact is_by I (knd_x I r1 (.base (.lst h))) k6 (by cases t <;> exact q)
  | @dct a ks vs kv vv h n ok nd r q' =>
    have q := run_pure (run_ok q R) R
    cases (show u1 = Value.ref a from r1)
    exact is_by I (knd_dct I h) k7 (by cases t <;> exact q)
  | @scr a ns h =>
    have q := run_pure (run_ok q R) R
    refine is_by I ?_ k6 (by cases t <;> exact q)
    rcases h with ⟨⟨o, h⟩, n⟩ | ⟨o, its, n, h1, h2, _⟩
    · exact knd_x I r1 (.base (.frz h))
    · exact knd_x I r1 (.kList h1 h2)
  | @ref a n e =>
    rcases at_ref e R with ⟨l, ys, e1, e2, _⟩ | ⟨ks, vs, kv, vv, e1, _, q2⟩
    · have q : run X.w X.K ((match st[n]? with
        | some (.lst l) => Res.ok (D.lst l) st
        | some (.dct k v) => .ok (.dct k v) st
        | none => .bad)) mu H W _ := q
      rw [e1] at q
      have q := run_pure (run_ok q R) R
      exact is_by I (knd_x I r1 (.base (.lst e2))) k6 (by cases t <;> exact q)
    · have q : run X.w X.K ((match st[n]? with
        | some (.lst l) => Res.ok (D.lst l) st
        | some (.dct k v) => .ok (.dct k v) st
        | none => .bad)) mu H W _ := q
      rw [e1] at q
      have q := run_pure (run_ok q R) R
      cases (show u1 = Value.ref a from r1)
      exact is_by I (knd_dct I q2.at_) k7 (by cases t <;> exact q)
end
end PI
set_option Elab.async false
set_option linter.all false
set_option maxRecDepth 100000
set_option maxHeartbeats 8000000
/-! PI, part AC: expressions by the translator: subscripts, displays, methods, min with a default, isinstance's call. -/
namespace PI
open PySem PySem.Spec PyProof.Rows L2
section
variable {c : Tc} {X : Cx} {sc : Scope} {W : WS} {F : Cf} {n : Nat} {m : Bool}
theorem pe_isi (S : Sound c F n) (C : Ctx c X sc W F) {a : Expr} {t : Str} {k : Ty} {p q pos : Pos} (hf : c.isFree sc "isinstance" = true) (ht : c.isFree sc t = true) (hk : tyOf t = some k) : PE X (.Call (.Name "isinstance" p) [a, .Name t q] [] pos) (tE X.w X.K (evE F (.isi (eOf c n sc a) k)) W) := by
  obtain ⟨hg, hm⟩ := free_of C hf
  obtain ⟨hg2, hm2⟩ := free_of C ht
  obtain ⟨t1, t2, t3, t4⟩ := tyOf_is hk
  cases hs : isStar a with
  | true => 
    cases a <;> first | cases hs | skip
    refine pe_none fun ρ st => ?_
    have e : eOf c n sc (.Starred ‹_› ‹_›) = .bad := by cases n <;> rfl
    rw [e, evE]
    refine bind_bad ?_
    rw [evE]; rfl
  | false =>
    refine (pe_callB (call_isD k) hg hm boot_isinstance (pa_cons (S.pe a C) (pa_cons (pe_bltn (v := .ty (tyName k)) hg2 hm2 t1 rfl t3 t4) pa_nil) (star_cons hs _ X.env)) (by decide) (by decide) (star_cons hs _ X.env) rfl).imp fun σ H Q q => ?_
    obtain ⟨ρ, st, mu, E, R, q⟩ := q
    rw [evE] at q
    refine ⟨ρ, st, mu, E, R, run_mono (run_bind q) fun d st1 mu1 H1 x1 R1 q v hv => ?_⟩
    refine ⟨mu1, st1, v, d, W σ, rfl, hv, R1, run_mono (run_bind q) fun b st2 mu2 H2 x2 R2 q => run_pure q R2 _ (.bl b)⟩
/-! ### subscripts -/
theorem pe_ixD (S : Sound c F n) (C : Ctx c X sc W F) {a i : Expr} {p : Pos} (hs : PlainIx i) : PE X (.Subscript a i p) (tE X.w X.K (evE F (.ix (eOf c n sc a) (eOf c n sc i))) W) := by
  refine (pe_ix (ixD C.u2) (S.pe a C) (S.pe i C) hs).imp fun σ H Q q => tE_two ?_
  obtain ⟨ρ, st, mu, E, R, q⟩ := q
  rw [evE] at q
  exact ⟨ρ, st, mu, E, R, q⟩
theorem pe_slD (S : Sound c F n) (C : Ctx c X sc W F) {a : Expr} {lo hi : Option Expr} {p p2 : Pos} : PE X (.Subscript a (.Slice lo hi none p2) p) (tE X.w X.K (evE F (.sl m (eOf c n sc a) (eoOf c n sc lo) (eoOf c n sc hi))) W) := by
  refine (pe_slice (slD (m := m)) (S.pe a C) (S.po lo C) (S.po hi C)).imp fun σ H Q q => ?_
  obtain ⟨ρ, st, mu, E, R, q⟩ := q
  rw [evE] at q
  refine ⟨ρ, st, mu, E, R, run_mono (run_bind q) fun d st1 mu1 H1 x1 R1 q v hv => ⟨ρ, st1, mu1, E.ext x1, R1, run_mono (run_bind q) fun i st2 mu2 H2 x2 R2 q => ⟨ρ, st2, mu2, (E.ext x1).ext x2, R2, run_mono (run_bind q) fun j st3 mu3 H3 x3 R3 q => ?_⟩⟩⟩
  exact ⟨mu3, st3, d, W σ, (hv.ext x2).ext x3, R3, q⟩
theorem pe_revD (S : Sound c F n) (C : Ctx c X sc W F) {a : Expr} {k : Nat} {p1 p2 p3 p : Pos} : PE X (.Subscript a (.Slice none none (some (.UnaryOp .USub (.Constant (.int 1) k p1) p2)) p3) p) (tE X.w X.K (evE F (.rev m (eOf c n sc a))) W) := by
  refine (pe_revL (S.pe a C)).imp fun σ H Q q => ?_
  obtain ⟨ρ, st, mu, E, R, q⟩ := q
  rw [evE] at q
  refine ⟨ρ, st, mu, E, R, run_mono (run_bind q) fun d st1 mu1 H1 x1 R1 q v hv => ?_⟩
  have q' : run X.w X.K ((do let l ← asL d; newL m l.reverse : M D) st1) mu1 H1 (W σ) (QV X.w X.K Q) := by
    cases d <;> first | exact q | exact q.elim
  obtain ⟨a, xs, l, rfl, h1, h2, q⟩ := run_asL hv R1 (run_bind q')
  exact ⟨a, xs, rfl, SqL.of h1, (run_newL q R1 h2.reverse).2⟩
/-! ### displays -/
theorem pe_tupD (S : Sound c F n) (C : Ctx c X sc W F) {es : List Expr} {k} {p : Pos} : PE X (.Tuple es k p) (tE X.w X.K (evE F (.tup (esOf c n sc es))) W) := by
  refine (pe_tup (S.pa es C)).imp fun σ H Q q => ?_
  obtain ⟨ρ, st, mu, E, R, q⟩ := q
  rw [evE] at q
  refine ⟨ρ, st, mu, E, R, run_mono (run_bind q) fun l st1 mu1 H1 x1 R1 q vs hv => ?_⟩
  obtain ⟨h1, h2, _⟩ := run_newT q R1 hv
  exact ⟨by rw [hv.length]; exact h1, h2⟩
theorem pe_lstD (S : Sound c F n) (C : Ctx c X sc W F) {es : List Expr} {p : Pos} : PE X (.List es p) (tE X.w X.K (evE F (.lst m (esOf c n sc es))) W) := by
  refine (pe_lst (S.pa es C)).imp fun σ H Q q => ?_
  obtain ⟨ρ, st, mu, E, R, q⟩ := q
  rw [evE] at q
  refine ⟨ρ, st, mu, E, R, run_mono (run_bind q) fun l st1 mu1 H1 x1 R1 q vs hv => ?_⟩
  obtain ⟨h1, h2⟩ := run_newL q R1 hv
  exact ⟨by rw [hv.length]; exact h1, h2⟩
def tDc0 : TE := fun _ H Q => ∀ p, H p = none → (p == sysModules) = false → Q (.ref p) (upd H p (dHO p dEmpty))
theorem pe_dct0 {p : Pos} : PE X (.Dict [] [] p) tDc0 := by
  refine ⟨fun pins s σ H Q I h => wpAny_Dict_empty ?_⟩
  have hf : H s.heap.objs.size = none := I.hok.fresh (Nat.le_refl _)
  have nsm : (s.heap.objs.size == sysModules) = false := beq_eq_false_iff_ne.mpr (Ne.symm (Nat.ne_of_lt I.big))
  refine ⟨.ref s.heap.objs.size, upd H s.heap.objs.size (dHO s.heap.objs.size dEmpty), I.laid (t' := s.toks) (fun b u e => Heap.get?_push_of_some _ e) (Nat.le_refl _) ?_, rfl, h _ hf nsm⟩
  exact ⟨Heap.get?_push_size _ rfl, ⟨_, Heap.get?_push_size _ rfl⟩, fun h1 h2 e k => k _ e⟩
theorem pe_dct0D {p : Pos} : PE X (.Dict [] [] p) (tE X.w X.K (evE F (.dct0 m)) W) := pe_dct0.imp fun σ H Q q p hp hs => by
  obtain ⟨ρ, st, mu, E, R, q⟩ := q
  rw [evE] at q
  exact run_newK q R .nil .nil trivial rfl hp fun H' e => dEmpty_at hs e
/-! ### methods -/
theorem base_plain {a : Expr} {x : Str} {env : PySem.Env} {w : Sem Value} (h : isCallE a = false) : attributeBase a x env w = w := by
  cases a <;> first | rfl | cases h
theorem mtD (C : Ctx c X sc W F) {x : Str} {k : Mt} (h : mtOf x = some k) : ∃ id, Slot "list" x id ∧ typeOf (.builtin id) = pure (.type "method_descriptor") ∧ MtR X id (rM X (meth k)) := by
  unfold mtOf at h
  split at h
  · rename_i e; subst e; cases h
    exact ⟨_, PySem.F.slot_list_append, PySem.F.type_list_append, mtD_append⟩
  split at h
  · rename_i e; subst e; cases h
    exact ⟨_, PySem.F.slot_list_extend, PySem.F.type_list_extend, mtD_extend⟩
  split at h
  · rename_i e; subst e; cases h
    exact ⟨_, PySem.F.slot_list_pop, PySem.F.type_list_pop, mtD_pop⟩
  split at h
  · rename_i e; subst e; cases h
    exact ⟨_, PySem.F.slot_list_index, PySem.F.type_list_index, mtD_index C.u1⟩
  · cases h
theorem back_kw {cpos : Pos} {env : PySem.Env} {es : List Expr} (h1 : es.any isStar = false) (h2 : es.length ≤ 28) :
    ((backTo cpos (starEach es env)).all (fun x => !x.1) && (backToKw cpos (keywordEach [] env)).all (fun x => x.1.isSome) && decide (es.length + ([] : List Keyword).length + (if ([] : List Keyword).isEmpty then 0 else 1) < 30)) = true := by
  rw [back_all cpos h1]
  show (true && true && decide (es.length + 0 + 0 < 30)) = true
  simp only [Bool.true_and]
  exact decide_eq_true (by omega)
theorem pe_methD (S : Sound c F n) (C : Ctx c X sc W F) {a : Expr} {x : Str} {k : Mt} {es : List Expr} {q p : Pos} (hl : (q.endLine == p.line) = true) (hc : isCallE a = false) (hz : es.length ≤ 28) (hs : es.any isStar = false) (h : mtOf x = some k) : PE X (.Call (.Attribute a x q) es [] p) (tE X.w X.K (evE F (.meth k (eOf c n sc a) (esOf c n sc es))) W) := by
  obtain ⟨id, sl, ty, mt⟩ := mtD C h
  cases es with
  | nil =>
    refine (pe_bm0 PySem.F.plainAttrs_list sl ty mt (S.pe a C) (base_plain hc) hl).imp fun σ H Q q => tE_meth0 ?_
    obtain ⟨ρ, st, mu, E, R, q⟩ := q
    cases n with
    | zero =>
      rw [evE] at q
      have q := run_bind q
      have e : eOf c 0 sc a = .bad := rfl
      rw [e, evE] at q
      exact q.elim
    | succ n =>
      have e : esOf c (n + 1) sc [] = .nil := rfl
      rw [e, evE] at q
      refine ⟨ρ, st, mu, E, R, ?_⟩
      have z : evEs F .nil ρ = M.pure [] := by rw [evEs]
      rw [z] at q
      exact q
  | cons e es =>
    obtain ⟨s1, s2⟩ := any_star hs
    refine (pe_bm PySem.F.plainAttrs_list sl ty mt (S.pe a C) (S.pa (e :: es) C) (base_plain hc) (back_kw hs hz) hl (star_cons s1 es X.env) (back_any p s2)).imp fun σ H Q q => tE_meth ?_
    obtain ⟨ρ, st, mu, E, R, q⟩ := q
    rw [evE] at q
    exact ⟨ρ, st, mu, E, R, q⟩
end
end PI
set_option Elab.async false
set_option linter.all false
set_option maxRecDepth 100000
set_option maxHeartbeats 8000000
/-! PI, part AD: expressions by the translator: min with a default, comprehensions. -/
namespace PI
open PySem PySem.Spec PyProof.Rows L2
section
variable {c : Tc} {X : Cx} {sc : Scope} {W : WS} {F : Cf} {n : Nat} {m : Bool}
/-! ### min(l, default=d) -/
def minDM (x y : D) : M D := do
  let l ← asL x
  let ns ← mof (toInts l)
  (match minI ns with
  | some i => M.pure (.int i)
  | none => M.pure y)
def rMinD (X : Cx) : List V → List V → Hp → VK → Prop := fun xs zs H Q => ∃ mu st x y d e W, xs = [x] ∧ zs = [y] ∧ Den X.w X.K mu H x d ∧ Den X.w X.K mu H y e ∧ RSt X.w X.K mu H st ∧ run X.w X.K (minDM d e st) mu H W (QV X.w X.K Q)
theorem minOf_int (a : Int) (r : List Int) : PySem.W.minOf a r = r.foldl (fun a b => if b < a then b else a) a := by
  unfold PySem.W.minOf
  congr 1
  funext a y
  show (if decide (y < a) = true then y else a) = _
  by_cases h : y < a
  · rw [if_pos h, if_pos (decide_eq_true h)]
  · rw [if_neg h, if_neg (fun z => h (of_decide_eq_true z))]
theorem holds_int {h : Heap} {v : Value} {i : Int} (H : PySem.W.Holds h v i) : ∃ t, v = .int i t := by
  obtain ⟨as, r⟩ := H
  have r' : Reads h v (.int i) as := r
  cases r' with
  | int _ t => exact ⟨t, rfl⟩
theorem call_minD (hc : X.calm = true) (hu : X.A.units + 65 < cLine) : CallRK X (.builtin "min") ["default"] (rMinD X) := by
  intro pins s σ H xs zs us ws Q I r1 r2 h
  obtain ⟨mu, st, x, y, d, e, W, rfl, rfl, hd, he, R, q⟩ := h
  obtain ⟨u, rfl, ru⟩ := vals1 r1
  obtain ⟨w, rfl, rw'⟩ := vals1 r2
  unfold minDM at q
  obtain ⟨a, xs, l, rfl, h1, h2, q⟩ := run_asL hd R (run_bind q)
  obtain ⟨ns, e1, q⟩ := run_mof (run_bind q) R
  obtain rfl : u = Value.ref a := ru
  obtain ⟨its, rv, pl, _⟩ := I.list (sq_ints h1 h2 e1)
  refine PySem.W.min_list_datum_default (α := Int) (vs := its.toArray) (xs := ns) (I.ok.hd hc) pl.isList (PySem.W.HoldAll.of_ints (intsAre_of rv)) (by show X.A.units + 1 + 0 < _; omega) (fun hz h' tk keep => ?_) (fun y ys i v h' tk hz hi hv keep => ?_)
  · subst hz
    exact ⟨_, H, I.kept keep, rw', run_pure q R _ he⟩
  · subst hz
    obtain ⟨t, rfl⟩ := holds_int hv
    refine ⟨.int (PySem.W.minOf y ys), H, I.kept keep, ⟨t, rfl⟩, ?_⟩
    rw [minOf_int]
    exact run_pure q R _ (.int _)
theorem pe_minD (S : Sound c F n) (C : Ctx c X sc W F) {a b : Expr} {p kp pos : Pos} (hf : c.isFree sc "min" = true) (hs : isStar a = false) : PE X (.Call (.Name "min" p) [a] [⟨some "default", b, kp⟩] pos) (tE X.w X.K (evE F (.minD (eOf c n sc a) (eOf c n sc b))) W) := by
  obtain ⟨hg, hm⟩ := free_of C hf
  have hst := star_cons hs [] X.env
  have hbk : backTo pos (starEach [a] X.env) = (false, eval a X.env) :: backTo pos (starEach [] X.env) := by rw [hst]; rfl
  refine (pe_callBK (call_minD C.calm C.u1) hg hm boot_min (pa_cons (S.pe a C) pa_nil hst) (pk_cons (S.pe b C) pk_nil) (by decide) (by decide) hbk (by rw [hbk]; rfl) rfl rfl rfl).imp fun σ H Q q => ?_
  obtain ⟨ρ, st, mu, E, R, q⟩ := q
  rw [evE] at q
  refine ⟨ρ, st, mu, E, R, run_mono (run_bind q) fun d st1 mu1 H1 x1 R1 q v hv => ⟨ρ, st1, mu1, E.ext x1, R1, run_mono (run_bind q) fun e st2 mu2 H2 x2 R2 q u hu => ?_⟩⟩
  exact ⟨mu2, st2, v, u, d, e, W σ, rfl, rfl, hv.ext x2, hu, R2, q⟩
/-! ### comprehensions -/
theorem fold_plain {e : Expr} (h : isSetE e = false) (env : PySem.Env) (x : Value) : foldedSetIterable e env x = pure x := by
  cases e <;> first | rfl | cases h
theorem it_set {tp : Bool} {e : Expr} (h : isSetE e = true) (n : Nat) (ρ : Env) (st : Store) : evIt F (itOf c tp n sc e) ρ st = .bad := by
  cases e <;> first | cases h | skip
  cases n with
  | zero =>
    have e : ∀ x, itOf c tp 0 sc x = .bad := fun x => rfl
    rw [e, evIt]; rfl
  | succ n =>
    have e : ∀ x y z, itOf c tp (n + 1) sc (.Set x y z) = .seq .bad ∨ itOf c tp (n + 1) sc (.Set x y z) = .seq (eOf c n sc (.Set x y z)) := fun x y z => .inr rfl
    have e2 : ∀ x y z, eOf c n sc (.Set x y z) = .bad := fun x y z => by cases n <;> rfl
    rcases e _ _ _ with e | e
    · rw [e, evIt]
      refine bind_bad ?_
      rw [evE]; rfl
    · rw [e, evIt]
      refine bind_bad ?_
      rw [e2, evE]; rfl
theorem blk_ok (C : Ctx c X sc W F) {scope : Scope} {own : List (Str × Nat)} (h : blkC c.N sc scope own = true) : BlkOk X.N X.env.scope scope own := by
  rw [C.N, C.sc]
  exact blkOk_by h
theorem tg_own {own : List (Str × Nat)} {l : List Nat} (h : (l.all fun i => own.any fun p => p.2 == i) = true) : ∀ i ∈ l, i ∈ own.map (·.2) := fun i hi => by
  obtain ⟨p, hp, e⟩ := List.any_eq_true.mp (List.all_eq_true.mp h i hi)
  exact List.mem_map.mpr ⟨p, hp, eq_of_beq e⟩
theorem tg_blk (C : Ctx c X sc W F) {scope : Scope} {tg : Expr} {t : T} (e : tOf c scope n tg = some t) (s : Shared) (H : Hp) (Ca : Addr) (cl : List (Str × Addr)) (fp : List Addr) : PG (X.blk s H scope (compEnvC scope cl Ca X.env) fp) tg (gD X t) :=
  ((pgD (X := X.blk s H scope (compEnvC scope cl Ca X.env) fp) C.N C.nd C.calm (asg_blk C s H Ca cl fp) n).1 tg t e).1
theorem pi_blk {scope : Scope} {env : PySem.Env} {fp : List Addr} {s : Shared} {H : Hp} {tg it : Expr} {xa : Env → M Src} (h : PI (X.blk s H scope env fp) tg it (tI (X.blk s H scope env fp) xa W)) : PI (X.blk s H scope env fp) tg it (tI X xa W) := ⟨fun pins s' σ H' R I q => h.run pins s' σ H' R I (by
  obtain ⟨ρ, st, mu, E, R', q⟩ := q
  exact ⟨ρ, st, mu, E, R', run_mono q fun src st1 mu1 H1 x1 R1 q J hJ => q J ⟨hJ.go, hJ.stop⟩⟩)⟩
theorem pe_compD (S : Sound c F n) (C : Ctx c X sc W F) {elt tg it : Expr} {ifs : List Expr} {scope : Scope} {p : Pos} {t : T} (h : blkC c.N sc scope (ownOf c.N scope) = true) (e : tOf c scope n tg = some t) (hs : ((tgSlots t).all fun i => (ownOf c.N scope).any fun p => p.2 == i) = true) :
    PE X (.ListComp elt [⟨tg, it, ifs, 0⟩] scope p) (tE X.w X.K (evE F (.comp m (eOf c n (relS scope sc) elt) ((ownOf c.N scope).map (·.2)) t (itOf c (isTupE tg) n sc it) (tsts c n (relS scope sc) ifs))) W) := by
  cases g : isSetE it with
  | true =>
    refine pe_none fun ρ st => ?_
    rw [evE]
    exact bind_bad (it_set g n ρ st)
  | false =>
    have ok := blk_ok C h
    refine (pe_lc C.calm C.nd' (S.pi tg it C) ok (fun s H Ca cl fp => tg_blk C e s H Ca cl fp) (fun s H Ca cl fp => S.pts ifs (C.blk ok s H Ca cl fp)) (fun s H Ca cl fp => S.pe elt (C.blk ok s H Ca cl fp)) (fold_plain g X.env)).imp fun σ H Q q => tE_comp (tg_own hs) q
theorem pe_compD2 (S : Sound c F n) (C : Ctx c X sc W F) {elt tg it tg1 it1 : Expr} {ifs ifs1 : List Expr} {scope : Scope} {p : Pos} {t t1 : T} (h : blkC c.N sc scope (ownOf c.N scope) = true) (e : tOf c scope n tg = some t) (e1 : tOf c scope n tg1 = some t1) (hs : ((tgSlots t ++ tgSlots t1).all fun i => (ownOf c.N scope).any fun p => p.2 == i) = true) (g1 : isSetE it1 = false) :
    PE X (.ListComp elt [⟨tg, it, ifs, 0⟩, ⟨tg1, it1, ifs1, 0⟩] scope p) (tE X.w X.K (evE F (.comp2 m (eOf c n (relS scope sc) elt) ((ownOf c.N scope).map (·.2)) (tgSlots t1) t (itOf c (isTupE tg) n sc it) (tsts c n (relS scope sc) ifs) t1 (itOf c (isTupE tg1) n (relS scope sc) it1) (tsts c n (relS scope sc) ifs1))) W) := by
  cases g : isSetE it with
  | true =>
    refine pe_none fun ρ st => ?_
    rw [evE]
    exact bind_bad (it_set g n ρ st)
  | false =>
    have ok := blk_ok C h
    have hs' := tg_own hs
    refine (pe_lc2 (vs1 := tgSlots t1) C.calm C.nd' (S.pi tg it C) ok (fun i hi => hs' i (List.mem_append_right _ hi)) (fun s H Ca cl fp => tg_blk C e s H Ca cl fp) (fun s H Ca cl fp => S.pts ifs (C.blk ok s H Ca cl fp)) (fun s H Ca cl fp => pi_blk (S.pi tg1 it1 (C.blk ok s H Ca cl fp)))
      (fun s H Ca cl fp => tg_blk C e1 s H Ca cl fp) (fun s H Ca cl fp => S.pts ifs1 (C.blk ok s H Ca cl fp)) (fun s H Ca cl fp => S.pe elt (C.blk ok s H Ca cl fp)) (fold_plain g X.env) (fold_plain g1)).imp fun σ H Q q => tE_comp2 (fun i hi => hs' i (List.mem_append_left _ hi)) (fun i hi => hi) q
theorem pe_dcompD (S : Sound c F n) (C : Ctx c X sc W F) {k v tg it : Expr} {ifs : List Expr} {scope : Scope} {p : Pos} {t : T} (h : blkC c.N sc scope (ownOf c.N scope) = true) (e : tOf c scope n tg = some t) (hs : ((tgSlots t).all fun i => (ownOf c.N scope).any fun p => p.2 == i) = true) :
    PE X (.DictComp k v [⟨tg, it, ifs, 0⟩] scope p) (tE X.w X.K (evE F (.dcomp m (eOf c n (relS scope sc) k) (eOf c n (relS scope sc) v) ((ownOf c.N scope).map (·.2)) t (itOf c (isTupE tg) n sc it) (tsts c n (relS scope sc) ifs))) W) := by
  cases g : isSetE it with
  | true =>
    refine pe_none fun ρ st => ?_
    rw [evE]
    exact bind_bad (it_set g n ρ st)
  | false =>
    have ok := blk_ok C h
    refine (pe_dcD (by have := C.u1; omega) C.calm C.nd' (S.pi tg it C) ok (fun s H Ca cl fp => tg_blk C e s H Ca cl fp) (fun s H Ca cl fp => S.pts ifs (C.blk ok s H Ca cl fp)) (fun s H Ca cl fp => S.pe k (C.blk ok s H Ca cl fp)) (fun s H Ca cl fp => S.pe v (C.blk ok s H Ca cl fp)) (fold_plain g X.env)).imp fun σ H Q q => tE_dcomp (tg_own hs) q
end
end PI
set_option Elab.async false
set_option linter.all false
set_option maxRecDepth 100000
set_option maxHeartbeats 8000000
/-! PK, part A: walking by equations. -/
namespace PI
open PySem L2
/-! ### results in a row -/
/-- marks what is not to be looked into -/
def Tg {X : Type} (_ : X) : Type := Unit
def tg {X : Type} {x : X} : Tg x := ()
def Res.bnd {α β : Type} (r : Res α) (f : α → Store → Res β) (_ : Tg f := tg) : Res β := match r with
  | .ok a st => f a st
  | .err c l st => .err c l st
  | .bad => .bad
theorem bnd_ok {α β : Type} (a : α) (st : Store) (f : α → Store → Res β) : (Res.ok a st).bnd f = f a st := rfl
theorem bnd_err {α β : Type} (c : Str) (l : List D) (st : Store) (f : α → Store → Res β) : (Res.err c l st).bnd f = .err c l st := rfl
theorem bnd_ite {α β : Type} {p : Prop} [Decidable p] (a b : Res α) (f : α → Store → Res β) : (if p then a else b).bnd f = if p then a.bnd f else b.bnd f := by split <;> rfl
theorem bnd_ext {α β : Type} {r : Res α} {f g : α → Store → Res β} (h : ∀ a st, f a st = g a st) : r.bnd f = r.bnd g := by
  have e : f = g := by funext a st; exact h a st
  subst e; rfl
def ofR {α : Type} (r : Res α) (ρ : Env) (k : α → Store → SRes) (_ : Tg k := tg) : SRes := match r with
  | .ok a st => k a st
  | .err c l st => .err c l ρ st
  | .bad => .bad
theorem ofR_ok {α : Type} (a : α) (st : Store) (ρ : Env) (k : α → Store → SRes) : ofR (.ok a st) ρ k = k a st := rfl
theorem ofR_err {α : Type} (c : Str) (l : List D) (st : Store) (ρ : Env) (k : α → Store → SRes) : ofR (.err c l st) ρ k = .err c l ρ st := rfl
theorem ofR_ite {α : Type} {p : Prop} [Decidable p] (a b : Res α) (ρ : Env) (k : α → Store → SRes) : ofR (if p then a else b) ρ k = if p then ofR a ρ k else ofR b ρ k := by split <;> rfl
theorem ofM_eq {α : Type} (x : M α) (ρ : Env) (k : α → Store → SRes) (st : Store) : ofM x ρ k st = ofR (x st) ρ k := by unfold ofM ofR; cases x st <;> rfl
theorem ofR_ext {α : Type} {r : Res α} {ρ : Env} {f g : α → Store → SRes} (h : ∀ a st, f a st = g a st) : ofR r ρ f = ofR r ρ g := by
  have e : f = g := by funext a st; exact h a st
  subst e; rfl
def nxt (r : SRes) (k : Env → Store → SRes) (_ : Tg k := tg) : SRes := r.next k
theorem next_ok (ρ : Env) (st : Store) (k : Env → Store → SRes) : (SRes.ok .nx ρ st).next k = k ρ st := rfl
theorem next_rt (d : D) (ρ : Env) (st : Store) (k : Env → Store → SRes) : (SRes.ok (.rt d) ρ st).next k = .ok (.rt d) ρ st := rfl
theorem nx_ok (ρ : Env) (st : Store) (k : Env → Store → SRes) : nxt (.ok .nx ρ st) k = k ρ st := rfl
theorem nx_rt (d : D) (ρ : Env) (st : Store) (k : Env → Store → SRes) : nxt (.ok (.rt d) ρ st) k = .ok (.rt d) ρ st := rfl
theorem nx_err (c : Str) (l : List D) (ρ : Env) (st : Store) (k : Env → Store → SRes) : nxt (.err c l ρ st) k = .err c l ρ st := rfl
theorem nx_ite {p : Prop} [Decidable p] (a b : SRes) (k : Env → Store → SRes) : nxt (if p then a else b) k = if p then nxt a k else nxt b k := by split <;> rfl
def fin (m : Bool) (st : Store) (r : SRes) : Res D := match r with
  | .ok .nx _ st' => back m st st' .non
  | .ok (.rt d) _ st' => back m st st' d
  | .err c l _ st' => backE st st' c l
  | .bad => .bad
theorem fin_nx (m : Bool) (st : Store) (ρ : Env) (st' : Store) : fin m st (.ok .nx ρ st') = back m st st' .non := rfl
theorem fin_rt (m : Bool) (st : Store) (d : D) (ρ : Env) (st' : Store) : fin m st (.ok (.rt d) ρ st') = back m st st' d := rfl
theorem fin_err (m : Bool) (st : Store) (c : Str) (l : List D) (ρ : Env) (st' : Store) : fin m st (.err c l ρ st') = backE st st' c l := rfl
theorem fin_ite {p : Prop} [Decidable p] (m : Bool) (st : Store) (a b : SRes) : fin m st (if p then a else b) = if p then fin m st a else fin m st b := by split <;> rfl
theorem run_eq {tb : Str → Option Fn} {sub : Str → Str → Option Bool} {k : Nat} {m : Bool} {f : Str} {l : List D} {st : Store} {np nl : Nat} {b : Ss} (h : tb f = some ⟨np, nl, b⟩) (h1 : l.length = np) (h2 : np ≤ nl) :
    runF tb sub (k + 1) m f l st = fin m st (evSs ⟨runF tb sub k, sub⟩ b (l.map some ++ List.replicate (nl - np) none) st) := by
  rw [runF, h]
  show (if l.length = np ∧ np ≤ nl then _ else _) = _
  rw [if_pos ⟨h1, h2⟩]
  unfold fin
  rfl
theorem ite_st {α : Type} {p : Prop} [Decidable p] (a b : M α) (st : Store) : (if p then a else b) st = if p then a st else b st := by split <;> rfl
/-! ### expressions -/
section
variable {F : Cf} {ρ : Env} {st : Store}
theorem bind_st {α β : Type} (x : M α) (f : α → M β) (st : Store) : (x >>= f) st = (x st).bnd (fun a st => f a st) := by rw [bind_def]; unfold Res.bnd; cases x st <;> rfl
theorem w_c (d : D) : evE F (.c d) ρ st = .ok d st := by
  rw [evE]; first | done | rfl
def slotR (o : Option (Option D)) (st : Store) : Res D := match o with
  | some (some d) => .ok d st
  | _ => .bad
theorem slotR_ok (d : D) : slotR (some (some d)) st = .ok d st := rfl
theorem w_v (i : Nat) : evE F (.v i) ρ st = slotR ρ[i]? st := by
  rw [evE]; unfold slotR
  split <;> first | rfl | simp_all
theorem w_tup (es : Es) : evE F (.tup es) ρ st = (evEs F es ρ st).bnd fun l st => newT l st := by
  rw [evE]; first | done | rfl
theorem w_lst (m : Bool) (es : Es) : evE F (.lst m es) ρ st = (evEs F es ρ st).bnd fun l st => newL m l st := by
  rw [evE]; first | done | rfl
theorem w_dct0 (m : Bool) : evE F (.dct0 m) ρ st = newK m [] [] st := by
  rw [evE]; first | done | rfl
theorem w_bin (m : Bool) (op : Op2) (a b : E) : evE F (.bin m op a b) ρ st = (evE F a ρ st).bnd fun x st => (evE F b ρ st).bnd fun y st => op2 m op x y st := by
  rw [evE]; first | done | rfl
theorem w_un (op : Op1) (a : E) : evE F (.un op a) ρ st = (evE F a ρ st).bnd fun x st => op1 op x st := by
  rw [evE]; first | done | rfl
theorem w_cmp (op : Cm) (a b : E) : evE F (.cmp op a b) ρ st = (evE F a ρ st).bnd fun x st => (evE F b ρ st).bnd fun y st => (cmpD op x y st).bnd fun c st => .ok (.bl c) st := by
  rw [evE]; first | done | rfl
theorem w_cmp2 (o1 o2 : Cm) (a b c : E) : evE F (.cmp2 o1 o2 a b c) ρ st = (evE F a ρ st).bnd fun x st => (evE F b ρ st).bnd fun y st => (cmpD o1 x y st).bnd fun k st => if k = true then (evE F c ρ st).bnd fun z st => (cmpD o2 y z st).bnd fun j st => .ok (.bl j) st else .ok (.bl false) st := by
  rw [evE, bind_st]; refine bnd_ext fun x st => ?_; rw [bind_st]; refine bnd_ext fun y st => ?_; rw [bind_st]; refine bnd_ext fun k st => ?_; rw [ite_st]; rfl
theorem w_isN (neg : Bool) (a : E) : evE F (.isN neg a) ρ st = (evE F a ρ st).bnd fun x st => .ok (.bl (if neg = true then !decide (x = .non) else decide (x = .non))) st := by
  rw [evE]; first | done | rfl
def isBR (neg b : Bool) (x : D) (st : Store) : Res D := match x with
  | .bl y => .ok (.bl (if neg = true then !decide (y = b) else decide (y = b))) st
  | _ => .bad
theorem w_isB (neg b : Bool) (a : E) : evE F (.isB neg b a) ρ st = (evE F a ρ st).bnd fun x st => isBR neg b x st := by
  rw [evE, bind_st]; refine bnd_ext fun x st => ?_; unfold isBR; cases x <;> rfl
def andR (x : D) (st : Store) (k : Res D) : Res D := match x with
  | .bl c => if c = true then k else .ok (.bl false) st
  | _ => .bad
theorem andR_bl (c : Bool) (k : Res D) : andR (.bl c) st k = if c = true then k else .ok (.bl false) st := rfl
def orR (x : D) (st : Store) (k : Res D) : Res D := match x with
  | .bl c => if c = true then .ok (.bl true) st else k
  | _ => .bad
theorem orR_bl (c : Bool) (k : Res D) : orR (.bl c) st k = if c = true then .ok (.bl true) st else k := rfl
theorem w_and (a b : E) : evE F (.and a b) ρ st = (evE F a ρ st).bnd fun x st => andR x st (evE F b ρ st) := by
  rw [evE, bind_st]; refine bnd_ext fun x st => ?_; unfold andR; cases x <;> first | rfl | (dsimp only; split <;> rfl)
theorem w_or (a b : E) : evE F (.or a b) ρ st = (evE F a ρ st).bnd fun x st => orR x st (evE F b ρ st) := by
  rw [evE, bind_st]; refine bnd_ext fun x st => ?_; unfold orR; cases x <;> first | rfl | (dsimp only; split <;> rfl)
def notR (x : D) (st : Store) : Res D := match x with
  | .bl c => .ok (.bl (!c)) st
  | _ => .bad
theorem notR_bl (c : Bool) : notR (.bl c) st = .ok (.bl (!c)) st := rfl
theorem w_not (a : E) : evE F (.not a) ρ st = (evE F a ρ st).bnd fun x st => notR x st := by
  rw [evE, bind_st]; refine bnd_ext fun x st => ?_; unfold notR; cases x <;> rfl
theorem w_ite (t a b : E) : evE F (.ite t a b) ρ st = (evT F t ρ st).bnd fun c st => if c = true then evE F a ρ st else evE F b ρ st := by
  rw [evE, bind_st]; refine bnd_ext fun c st => ?_; first | done | rw [ite_st]
theorem w_ix (a i : E) : evE F (.ix a i) ρ st = (evE F a ρ st).bnd fun x st => (evE F i ρ st).bnd fun y st => getIx x y st := by
  rw [evE]; first | done | rfl
theorem w_sl (m : Bool) (a : E) (lo hi : Eo) : evE F (.sl m a lo hi) ρ st = (evE F a ρ st).bnd fun x st => (evEo F lo ρ st).bnd fun i st => (evEo F hi ρ st).bnd fun j st => slice m x i j st := by
  rw [evE]; first | done | rfl
theorem w_rev (m : Bool) (a : E) : evE F (.rev m a) ρ st = (evE F a ρ st).bnd fun x st => revD m x st := by
  rw [evE]; first | done | rfl
theorem w_bi (m : Bool) (f : Bi) (es : Es) : evE F (.bi m f es) ρ st = (evEs F es ρ st).bnd fun l st => bi m f l st := by
  rw [evE]; first | done | rfl
theorem w_rngE (t m : Bool) (es : Es) : evE F (.rngE t m es) ρ st = (evEs F es ρ st).bnd fun l st => (rangeE l st).bnd fun s st => if t = true then newT s st else newL m s st := by
  rw [evE, bind_st]; refine bnd_ext fun l st => ?_; rw [bind_st]; refine bnd_ext fun s st => ?_; first | done | rw [ite_st]
theorem w_isi (a : E) (t : Ty) : evE F (.isi a t) ρ st = (evE F a ρ st).bnd fun x st => (isTy x t st).bnd fun b st => .ok (.bl b) st := by
  rw [evE]; first | done | rfl
theorem w_own (m : Bool) (f : Str) (es : Es) : evE F (.own m f es) ρ st = (evEs F es ρ st).bnd fun l st => F.cl m f l st := by
  rw [evE]; first | done | rfl
theorem w_meth (mt : Mt) (a : E) (es : Es) : evE F (.meth mt a es) ρ st = (evE F a ρ st).bnd fun x st => (asL x st).bnd fun _ st => (evEs F es ρ st).bnd fun l st => meth mt x l st := by
  rw [evE]; first | done | rfl
def minR (o : Option Int) (y : D) (st : Store) : Res D := match o with
  | some i => .ok (.int i) st
  | none => .ok y st
theorem w_minD (a b : E) : evE F (.minD a b) ρ st = (evE F a ρ st).bnd fun x st => (evE F b ρ st).bnd fun y st => (asL x st).bnd fun l st => ((mof (toInts l) : M (List Int)) st).bnd fun ns st => minR (minI ns) y st := by
  rw [evE, bind_st]; refine bnd_ext fun x st => ?_; rw [bind_st]; refine bnd_ext fun y st => ?_; rw [bind_st]; refine bnd_ext fun l st => ?_; rw [bind_st]; refine bnd_ext fun ns st => ?_
  unfold minR; cases minI ns <;> rfl
theorem w_nil : evEs F .nil ρ st = .ok [] st := by
  rw [evEs]; first | done | rfl
theorem w_cons (e : E) (r : Es) : evEs F (.cons e r) ρ st = (evE F e ρ st).bnd fun d st => (evEs F r ρ st).bnd fun l st => .ok (d :: l) st := by
  rw [evEs]; first | done | rfl
theorem w_on : evEo F .none ρ st = .ok none st := by
  rw [evEo]; first | done | rfl
def intR (d : D) (st : Store) : Res (Option Int) := match d with
  | .int i => .ok (some i) st
  | _ => .bad
theorem intR_int (i : Int) : intR (.int i) st = .ok (some i) st := rfl
theorem w_os (e : E) : evEo F (.some e) ρ st = (evE F e ρ st).bnd fun d st => intR d st := by
  rw [evEo, bind_st]; refine bnd_ext fun x st => ?_; unfold intR; cases x <;> rfl
/-! tests -/
theorem t_and (a b : E) : evT F (.and a b) ρ st = (evT F a ρ st).bnd fun c st => if c = true then evT F b ρ st else .ok false st := by
  rw [evT, bind_st]; refine bnd_ext fun c st => ?_; rw [ite_st]; first | done | rfl
theorem t_or (a b : E) : evT F (.or a b) ρ st = (evT F a ρ st).bnd fun c st => if c = true then .ok true st else evT F b ρ st := by
  rw [evT, bind_st]; refine bnd_ext fun c st => ?_; rw [ite_st]; first | done | rfl
theorem t_not (a : E) : evT F (.not a) ρ st = (evT F a ρ st).bnd fun c st => .ok (!c) st := by
  rw [evT]; first | done | rfl
theorem t_ite (t a b : E) : evT F (.ite t a b) ρ st = (evT F t ρ st).bnd fun c st => if c = true then evT F a ρ st else evT F b ρ st := by
  rw [evT, bind_st]; refine bnd_ext fun c st => ?_; rw [ite_st]; first | done | rfl
theorem t_cmp (op : Cm) (a b : E) : evT F (.cmp op a b) ρ st = (evE F (.cmp op a b) ρ st).bnd fun d st => truth d st := by
  rw [evT] <;> first | rfl | (intros; rename_i h; cases h)
theorem t_cmp2 (o1 o2 : Cm) (a b c : E) : evT F (.cmp2 o1 o2 a b c) ρ st = (evE F (.cmp2 o1 o2 a b c) ρ st).bnd fun d st => truth d st := by
  rw [evT] <;> first | rfl | (intros; rename_i h; cases h)
theorem t_isN (neg : Bool) (a : E) : evT F (.isN neg a) ρ st = (evE F (.isN neg a) ρ st).bnd fun d st => truth d st := by
  rw [evT] <;> first | rfl | (intros; rename_i h; cases h)
theorem t_isB (neg b : Bool) (a : E) : evT F (.isB neg b a) ρ st = (evE F (.isB neg b a) ρ st).bnd fun d st => truth d st := by
  rw [evT] <;> first | rfl | (intros; rename_i h; cases h)
theorem t_own (m : Bool) (f : Str) (es : Es) : evT F (.own m f es) ρ st = (evE F (.own m f es) ρ st).bnd fun d st => truth d st := by
  rw [evT] <;> first | rfl | (intros; rename_i h; cases h)
theorem t_bi (m : Bool) (f : Bi) (es : Es) : evT F (.bi m f es) ρ st = (evE F (.bi m f es) ρ st).bnd fun d st => truth d st := by
  rw [evT] <;> first | rfl | (intros; rename_i h; cases h)
theorem t_isi (a : E) (t : Ty) : evT F (.isi a t) ρ st = (evE F (.isi a t) ρ st).bnd fun d st => truth d st := by
  rw [evT] <;> first | rfl | (intros; rename_i h; cases h)
theorem t_v (i : Nat) : evT F (.v i) ρ st = (evE F (.v i) ρ st).bnd fun d st => truth d st := by
  rw [evT] <;> first | rfl | (intros; rename_i h; cases h)
theorem t_ix (a i : E) : evT F (.ix a i) ρ st = (evE F (.ix a i) ρ st).bnd fun d st => truth d st := by
  rw [evT] <;> first | rfl | (intros; rename_i h; cases h)
theorem t_bin (m : Bool) (op : Op2) (a b : E) : evT F (.bin m op a b) ρ st = (evE F (.bin m op a b) ρ st).bnd fun d st => truth d st := by
  rw [evT] <;> first | rfl | (intros; rename_i h; cases h)
theorem ts_nil : evTs F .nil ρ st = .ok true st := by
  rw [evTs]; first | done | rfl
theorem ts_cons (e : E) (r : Es) : evTs F (.cons e r) ρ st = evT F e ρ st := by
  rw [evTs]; first | done | rfl
theorem truth_bl (b : Bool) : truth (.bl b) st = .ok b st := rfl
theorem truth_int (i : Int) : truth (.int i) st = .ok (i != 0) st := rfl
theorem truth_non : truth .non st = .ok false st := rfl
/-! iterables -/
theorem i_seq (e : E) : evIt F (.seq e) ρ st = (evE F e ρ st).bnd fun d st => srcOf d st := by
  rw [evIt]; first | done | rfl
theorem i_rng (es : Es) : evIt F (.rng es) ρ st = (evEs F es ρ st).bnd fun l st => rangeSrc l st := by
  rw [evIt]; first | done | rfl
theorem i_enum (e : E) : evIt F (.enum e) ρ st = (evE F e ρ st).bnd fun d st => (srcOf d st).bnd fun s st => .ok ⟨s.w, numbered 0 s.items, true⟩ st := by
  rw [evIt]; first | done | rfl
theorem i_zip (a b : E) : evIt F (.zip a b) ρ st = (evE F a ρ st).bnd fun x st => (evE F b ρ st).bnd fun y st => (srcOf x st).bnd fun s st => (srcOf y st).bnd fun t st => if s.isL = t.isL then .ok ⟨s.w ++ t.w, zipD s.items t.items, true⟩ st else .bad := by
  rw [evIt, bind_st]; refine bnd_ext fun x st => ?_; rw [bind_st]; refine bnd_ext fun y st => ?_; rw [bind_st]; refine bnd_ext fun s st => ?_; rw [bind_st]; refine bnd_ext fun t st => ?_; rw [ite_st]; rfl
/-! statements -/
theorem s_pass : evS F .pass ρ st = .ok .nx ρ st := by
  rw [evS]; first | done | rfl
def bindS (o : Option Env) (st : Store) : SRes := match o with
  | some ρ' => .ok .nx ρ' st
  | none => .bad
theorem bindS_some (ρ' : Env) : bindS (some ρ') st = .ok .nx ρ' st := rfl
theorem s_asg (tg : T) (e : E) : evS F (.asg tg e) ρ st = ofR (evE F e ρ st) ρ fun d st' => bindS (bindT tg d ρ) st' := by
  rw [evS, ofM_eq]; first | done | rfl
theorem s_par (is : List Nat) (es : Es) : evS F (.par is es) ρ st = ofR (evEs F es ρ st) ρ fun l st' => bindS (setAll is l ρ) st' := by
  rw [evS, ofM_eq]; first | done | rfl
theorem s_setix (a i e : E) : evS F (.setix a i e) ρ st = ofR (evE F e ρ st) ρ fun d st1 => ofR (evE F a ρ st1) ρ fun x st2 => ofR (evE F i ρ st2) ρ fun y st3 => ofR (setIx x y d st3) ρ fun _ st4 => .ok .nx ρ st4 := by
  rw [evS]; first | done | rfl
def augR (F : Cf) (i : Nat) (op : Op2) (e : E) (ρ : Env) (o : Option (Option D)) (st : Store) : SRes := match o with
  | some (some x) => ofR (evE F e ρ st) ρ (fun d st1 => match x, d with
      | .int a, .int b => (match op with
        | .add => .ok .nx (ρ.set i (some (.int (a + b)))) st1
        | .sub => .ok .nx (ρ.set i (some (.int (a - b)))) st1
        | _ => .bad)
      | _, _ => .bad)
  | _ => .bad
theorem s_aug (i : Nat) (op : Op2) (e : E) : evS F (.aug i op e) ρ st = augR F i op e ρ ρ[i]? st := by
  rw [evS]; unfold augR
  cases h : ρ[i]? with
  | none => rfl
  | some o => cases o with
    | none => rfl
    | some x =>
      dsimp only
      rw [ofM_eq]; refine ofR_ext fun d st1 => ?_
      cases x <;> cases d <;> first | rfl | (cases op <;> rfl)
theorem augR_add (i : Nat) (e : E) (a : Int) : augR F i .add e ρ (some (some (.int a))) st = ofR (evE F e ρ st) ρ (fun d st1 => match d with
    | .int b => .ok .nx (ρ.set i (some (.int (a + b)))) st1
    | _ => .bad) := by
  unfold augR; dsimp only; refine ofR_ext fun d st1 => ?_; cases d <;> rfl
theorem augR_sub (i : Nat) (e : E) (a : Int) : augR F i .sub e ρ (some (some (.int a))) st = ofR (evE F e ρ st) ρ (fun d st1 => match d with
    | .int b => .ok .nx (ρ.set i (some (.int (a - b)))) st1
    | _ => .bad) := by
  unfold augR; dsimp only; refine ofR_ext fun d st1 => ?_; cases d <;> rfl
theorem s_expr (e : E) : evS F (.expr e) ρ st = ofR (evE F e ρ st) ρ fun _ st' => .ok .nx ρ st' := by
  rw [evS]; first | done | rfl
theorem s_ret (e : E) : evS F (.ret e) ρ st = ofR (evE F e ρ st) ρ fun d st' => .ok (.rt d) ρ st' := by
  rw [evS]; first | done | rfl
theorem s_ife (t : E) (a b : Ss) : evS F (.ife t a b) ρ st = ofR (evT F t ρ st) ρ fun c st' => if c = true then evSs F a ρ st' else evSs F b ρ st' := by
  rw [evS]; first | done | rfl
theorem s_for (tg : T) (it : It) (b : Ss) : evS F (.for_ tg it b) ρ st = ofR (evIt F it ρ st) ρ fun src st' => forL tg (evSs F b) src src.items ρ st' := by
  rw [evS]; first | done | rfl
theorem s_whl (t : E) (b : Ss) : evS F (.whl t b) ρ st = whlL (evT F t) (evSs F b) turns ρ st := by
  rw [evS]; first | done | rfl
theorem s_raise (c : Str) (es : Es) : evS F (.raise c es) ρ st = ofR (evEs F es ρ st) ρ fun l st' => .err c l ρ st' := by
  rw [evS]; first | done | rfl
def tryR (F : Cf) (hs : Hs) (r : SRes) : SRes := match r with
  | .err c as ρ' st' => evHs F hs c as ρ' st'
  | r => r
theorem s_try (b : Ss) (hs : Hs) : evS F (.try_ b hs) ρ st = tryR F hs (evSs F b ρ st) := by
  rw [evS]; unfold tryR; cases evSs F b ρ st <;> rfl
theorem tryR_ok (hs : Hs) (f : Fl) : tryR F hs (.ok f ρ st) = .ok f ρ st := rfl
theorem tryR_err (hs : Hs) (c : Str) (as : List D) : tryR F hs (.err c as ρ st) = evHs F hs c as ρ st := rfl
theorem ss_nil : evSs F .nil ρ st = .ok .nx ρ st := by
  rw [evSs]; first | done | rfl
theorem ss_cons (s : S) (r : Ss) : evSs F (.cons s r) ρ st = nxt (evS F s ρ st) (evSs F r) := by
  rw [evSs]; first | done | rfl
end
end PI
set_option Elab.async false
set_option linter.all false
set_option maxRecDepth 100000
set_option maxHeartbeats 8000000
/-! PK, part B: data as it is met; comprehensions, loops, calls' ends. -/
namespace PI
open PySem L2
/-! ### how data is met -/
def nD (n : Nat) : D := .int (n : Nat)
def oD : Option Int → D
  | none => .non
  | some i => .int i
def tN (l : List Nat) : D := .tup (l.map nD)
def tO (l : List (Option Int)) : D := .tup (l.map oD)
def lO (l : List (Option Int)) : D := .lst (l.map oD)
theorem nD_ap (n : Nat) : nD n = .int (n : Nat) := rfl
theorem oD_some (i : Int) : oD (some i) = .int i := rfl
theorem oD_none : oD none = .non := rfl
theorem tN_ap (l : List Nat) : tN l = .tup (l.map nD) := rfl
theorem tO_ap (l : List (Option Int)) : tO l = .tup (l.map oD) := rfl
theorem oD_non (o : Option Int) : decide (oD o = .non) = o.isNone := by cases o <;> rfl
theorem oD_get {o : Option Int} (h : o.isSome = true) : oD o = .int o.get! := by cases o <;> first | rfl | cases h
/-! ### no place of the store in it -/
mutual
def D.nr : D → Bool
  | .ref _ => false
  | .tup l => D.nrL l
  | .lst l => D.nrL l
  | .dct k v => D.nrL k && D.nrL v
  | _ => true
def D.nrL : List D → Bool
  | [] => true
  | d :: r => D.nr d && D.nrL r
end
theorem nrL_all : ∀ {l : List D}, D.nrL l = l.all D.nr
  | [] => by unfold D.nrL; rfl
  | d :: r => by rw [D.nrL, List.all_cons, nrL_all]
theorem nrL_map {α : Type} {e : α → D} {l : List α} (h : ∀ a ∈ l, (e a).nr = true) : D.nrL (l.map e) = true := by
  rw [nrL_all, List.all_map, List.all_eq_true]; exact h
theorem nr_oD (o : Option Int) : (oD o).nr = true := by cases o <;> simp [oD, D.nr]
theorem nr_nD (o : Nat) : (nD o).nr = true := by simp [nD, D.nr]
theorem nr_tN (l : List Nat) : (tN l).nr = true := by rw [tN, D.nr]; exact nrL_map fun a _ => nr_nD a
theorem nr_tO (l : List (Option Int)) : (tO l).nr = true := by rw [tO, D.nr]; exact nrL_map fun a _ => nr_oD a
theorem nr_int (i : Int) : (D.int i).nr = true := by simp [D.nr]
theorem nr_bl (i : Bool) : (D.bl i).nr = true := by simp [D.nr]
theorem nr_str (i : Str) : (D.str i).nr = true := by simp [D.nr]
theorem nr_non : D.non.nr = true := by simp [D.nr]
theorem nr_tup (l : List D) : (D.tup l).nr = D.nrL l := by rw [D.nr]
theorem nr_lst (l : List D) : (D.lst l).nr = D.nrL l := by rw [D.nr]
theorem nr_dct (k v : List D) : (D.dct k v).nr = (D.nrL k && D.nrL v) := by rw [D.nr]
theorem nrL_nil : D.nrL [] = true := by rw [D.nrL]
theorem nrL_cons (d : D) (l : List D) : D.nrL (d :: l) = (d.nr && D.nrL l) := by rw [D.nrL]
theorem nrL_append (a b : List D) : D.nrL (a ++ b) = (D.nrL a && D.nrL b) := by simp [nrL_all]
theorem nrL_nD (l : List Nat) : D.nrL (l.map nD) = true := nrL_map fun a _ => nr_nD a
theorem nrL_oD (l : List (Option Int)) : D.nrL (l.map oD) = true := nrL_map fun a _ => nr_oD a
theorem nrL_tN (l : List (List Nat)) : D.nrL (l.map tN) = true := nrL_map fun a _ => nr_tN a
theorem nrL_int (l : List Int) : D.nrL (l.map .int) = true := nrL_map fun a _ => nr_int a
theorem nrL_bl (l : List Bool) : D.nrL (l.map .bl) = true := nrL_map fun a _ => nr_bl a
mutual
theorem subD_nr {n : Nat} {g : Nat → Option D} : ∀ {d : D}, d.nr = true → subD n g d = some d
  | .non, _ => by rw [subD]
  | .bl _, _ => by rw [subD]
  | .int _, _ => by rw [subD]
  | .str _, _ => by rw [subD]
  | .scr _, _ => by rw [subD]
  | .ref _, h => by rw [D.nr] at h; cases h
  | .tup l, h => by rw [subD, subL_nr (by rw [D.nr] at h; exact h)]
  | .lst l, h => by rw [subD, subL_nr (by rw [D.nr] at h; exact h)]
  | .dct k v, h => by
    rw [D.nr, Bool.and_eq_true] at h
    rw [subD, subL_nr h.1, subL_nr h.2]
theorem subL_nr {n : Nat} {g : Nat → Option D} : ∀ {l : List D}, D.nrL l = true → subL n g l = some l
  | [], _ => by rw [subL]
  | d :: r, h => by
    rw [D.nrL, Bool.and_eq_true] at h
    rw [subL, subD_nr h.1, subL_nr h.2]
end
mutual
theorem under_nr {n : Nat} : ∀ {d : D}, d.nr = true → d.under n = true
  | .non, _ => by simp [D.under]
  | .bl _, _ => by simp [D.under]
  | .int _, _ => by simp [D.under]
  | .str _, _ => by simp [D.under]
  | .scr _, _ => by simp [D.under]
  | .ref _, h => by rw [D.nr] at h; cases h
  | .tup l, h => by rw [D.under, underL_nr (by rw [D.nr] at h; exact h)]
  | .lst l, h => by rw [D.under, underL_nr (by rw [D.nr] at h; exact h)]
  | .dct k v, h => by
    rw [D.nr, Bool.and_eq_true] at h
    rw [D.under, underL_nr h.1, underL_nr h.2]; rfl
theorem underL_nr {n : Nat} : ∀ {l : List D}, D.nrL l = true → D.underL n l = true
  | [], _ => by rw [D.underL]
  | d :: r, h => by
    rw [D.nrL, Bool.and_eq_true] at h
    rw [D.underL, under_nr h.1, underL_nr h.2]; rfl
end
def O.nr : O → Bool
  | .lst l => D.nrL l
  | .dct k v => D.nrL k && D.nrL v
theorem O.under_nr {n : Nat} {o : O} (h : o.nr = true) : o.under n = true := by
  cases o with
  | lst l => exact underL_nr h
  | dct k v =>
    have h := Bool.and_eq_true_iff.mp h
    show (D.underL n k && D.underL n v) = true
    rw [underL_nr h.1, underL_nr h.2]; rfl
/-! ### the ends of calls -/
theorem oldOk_self (st : Store) : oldOk st st = true := by
  unfold oldOk
  rw [List.all_eq_true]
  intro i _
  rw [decide_eq_true rfl]; rfl
theorem oldOk_app (st r : Store) : oldOk st (st ++ r) = true := by
  unfold oldOk
  rw [List.all_eq_true]
  intro i hi
  rw [List.mem_range] at hi
  rw [List.getElem?_append_left hi, decide_eq_true rfl]; rfl
/-- a call that leaves what was there, but for some places in which plain things stand -/
structure Kept (st st' : Store) : Prop where
  le : st.length ≤ st'.length
  old : ∀ i < st.length, st'[i]? = st[i]? ∨ ∃ o, st'[i]? = some o ∧ o.nr = true
theorem Kept.refl (st : Store) : Kept st st := ⟨Nat.le_refl _, fun _ _ => .inl rfl⟩
theorem Kept.app (st r : Store) : Kept st (st ++ r) := ⟨by simp, fun i h => .inl (List.getElem?_append_left h)⟩
theorem Kept.oldOk {st st' : Store} (h : Kept st st') : oldOk st st' = true := by
  unfold PI.oldOk
  rw [List.all_eq_true]
  intro i hi
  rw [List.mem_range] at hi
  rcases h.old i hi with e | ⟨o, e, n⟩
  · rw [decide_eq_true e]; rfl
  · rw [e]; dsimp only; rw [O.under_nr n, Bool.or_true]
theorem back_d {m : Bool} {st st' : Store} {d : D} (h : Kept st st') (hd : d.nr = true) : back m st st' d = .ok d (st'.take st.length) := by
  unfold back
  rw [if_pos ⟨h.oldOk, h.le⟩]
  cases m <;> cases d <;> first | (rw [D.nr] at hd; cases hd; done) | (dsimp only; rw [subD_nr hd])
theorem back_same {m : Bool} {st : Store} {d : D} (hd : d.nr = true) : back m st st d = .ok d st := by
  rw [back_d (Kept.refl st) hd, List.take_length]
theorem back_app {m : Bool} {st r : Store} {d : D} (hd : d.nr = true) : back m st (st ++ r) d = .ok d st := by
  rw [back_d (Kept.app st r) hd, List.take_left']; rfl
theorem frz_lst {n ex f k : Nat} {st : Store} {l : List D} (h : st[k]? = some (.lst l)) (hn : D.nrL l = true) (he : k ≠ ex) : frzAt n st ex (f + 1) k = some (.lst l) := by
  rw [frzAt, if_neg he, h]
  dsimp only
  rw [subL_nr hn]
theorem frz_dct {n ex f k : Nat} {st : Store} {a b : List D} (h : st[k]? = some (.dct a b)) (hn : D.nrL a = true) (hn2 : D.nrL b = true) (he : k ≠ ex) : frzAt n st ex (f + 1) k = some (.dct a b) := by
  rw [frzAt, if_neg he, h]
  dsimp only
  rw [subL_nr hn, subL_nr hn2]
/-- a new list handed back to be kept as it is -/
theorem back_rf {st st' : Store} {k : Nat} {l : List D} (h : Kept st st') (hk : st.length ≤ k) (e : st'[k]? = some (.lst l)) (hn : D.nrL l = true) : back false st st' (.ref k) = .ok (.lst l) (st'.take st.length) := by
  unfold back
  rw [if_pos ⟨h.oldOk, h.le⟩]
  dsimp only
  have hl : k < st'.length := (List.getElem?_eq_some_iff.mp e).1
  rw [subD, if_neg (by omega), show deep = 5 + 1 from rfl, frz_lst e hn (by omega)]
/-- a new list handed back to be changed -/
theorem back_rt {st st' : Store} {k : Nat} {l : List D} (h : Kept st st') (hk : st.length ≤ k) (e : st'[k]? = some (.lst l)) (hn : D.nrL l = true) : back true st st' (.ref k) = .ok (.ref st.length) (st'.take st.length ++ [.lst l]) := by
  unfold back
  rw [if_pos ⟨h.oldOk, h.le⟩]
  dsimp only
  rw [if_neg (by omega), e]
  dsimp only
  rw [subL_nr hn]
theorem backE_k {st st' : Store} {c : Str} (h : Kept st st') : backE st st' c [] = .err c [] (st'.take st.length) := by
  unfold backE
  rw [if_pos ⟨h.oldOk, h.le⟩]
theorem backE_same {st : Store} {c : Str} : backE st st c [] = .err c [] st := by
  rw [backE_k (Kept.refl st), List.take_length]
theorem backE_app {st r : Store} {c : Str} : backE st (st ++ r) c [] = .err c [] st := by
  rw [backE_k (Kept.app st r), List.take_left']; rfl
/-! ### comprehensions -/
section
variable {F : Cf} {ρ : Env} {st : Store}
theorem compP_nil {f : D → M (Option D)} {src : Src} {acc : List D} {st : Store} (hc : src.chk st = true) : compL f src [] acc st = .ok acc st := by
  rw [compL]; exact if_pos hc
theorem compP_cons {f : D → M (Option D)} {src : Src} {x : D} {r acc : List D} {st st' : Store} {o : Option D} (hc : src.chk st = true) (h : f x st = .ok o st') (hl : acc.length < sizeLine) : compL f src (x :: r) acc st = compL f src r (acc ++ o.toList) st' := by
  rw [compL]
  refine (if_pos hc).trans ?_
  rw [h]
  cases o with
  | none => dsimp only; rw [Option.toList, List.append_nil]
  | some y => dsimp only; rw [if_pos hl]; rfl
theorem compL_pure {α : Type} {f : D → M (Option D)} {src : Src} (hc : src.chk st = true) : ∀ (l : List α) (e : α → D) (g : α → Option D) (acc : List D),
    (∀ a ∈ l, f (e a) st = .ok (g a) st) → acc.length + l.length ≤ sizeLine → compL f src (l.map e) acc st = .ok (acc ++ l.filterMap g) st
  | [], e, g, acc, _, _ => by
    rw [List.map_nil, compP_nil hc]; simp
  | a :: r, e, g, acc, h, hl => by
    rw [List.length_cons] at hl
    rw [List.map_cons, compP_cons hc (h a List.mem_cons_self) (by omega), List.filterMap_cons]
    cases hg : g a with
    | none =>
      rw [Option.toList, List.append_nil]
      exact compL_pure hc r e g acc (fun b hb => h b (List.mem_cons_of_mem _ hb)) (by omega)
    | some y =>
      rw [compL_pure hc r e g (acc ++ (some y).toList) (fun b hb => h b (List.mem_cons_of_mem _ hb)) (by simp only [Option.toList, List.length_append, List.length_singleton]; omega)]
      simp
/-- what a turn of a comprehension does -/
def compF (F : Cf) (elt : E) (vs : List Nat) (tg : T) (c : Es) (ρ : Env) (d : D) : M (Option D) := match bindT tg d (wipeD ρ vs) with
      | some ρ' => do
        let b ← evTs F c ρ'
        if b = true then do
          let y ← evE F elt ρ'
          M.pure (some y)
        else M.pure none
      | none => mbad
theorem w_comp (m : Bool) (elt : E) (vs : List Nat) (tg : T) (it : It) (c : Es) : evE F (.comp m elt vs tg it c) ρ st = (evIt F it ρ st).bnd fun src st => (compL (compF F elt vs tg c ρ) src src.items [] st).bnd fun l st => newL m l st := by
  rw [evE]; rfl
def compF2 (F : Cf) (elt : E) (ρ' : Env) (c : Es) (st : Store) : Res (Option D) := (evTs F c ρ' st).bnd fun b st => if b = true then (evE F elt ρ' st).bnd fun y st => .ok (some y) st else .ok none st
theorem compF2_eq {elt : E} {c : Es} : compF2 F elt ρ c st = (evTs F c ρ st).bnd fun b st => if b = true then (evE F elt ρ st).bnd fun y st => .ok (some y) st else .ok none st := rfl
def compO (F : Cf) (elt : E) (c : Es) (st : Store) (o : Option Env) : Res (Option D) := match o with
  | some ρ' => compF2 F elt ρ' c st
  | none => .bad
theorem compO_some {elt : E} {c : Es} : compO F elt c st (some ρ) = compF2 F elt ρ c st := rfl
theorem compF_st {elt : E} {vs : List Nat} {tg : T} {c : Es} {d : D} : compF F elt vs tg c ρ d st = compO F elt c st (bindT tg d (wipeD ρ vs)) := by
  unfold compF compO
  cases bindT tg d (wipeD ρ vs) with
  | none => rfl
  | some ρ' =>
    unfold compF2
    show (evTs F c ρ' >>= _) st = _
    rw [bind_st]
    refine bnd_ext fun b st => ?_
    rw [ite_st]
    rfl
theorem fmap_all {α β : Type} {l : List α} {q : α → β} : (l.filterMap fun a => some (q a)) = l.map q := by simp
theorem fmap_if {α β : Type} {l : List α} {p : α → Bool} {q : α → β} : (l.filterMap fun a => if p a = true then some (q a) else none) = (l.filter p).map q := by
  induction l with
  | nil => rfl
  | cons a r ih => rw [List.filterMap_cons, List.filter_cons]; cases p a <;> simp [ih]
theorem comp_l {α : Type} {m : Bool} {elt : E} {vs : List Nat} {tg : T} {it : It} {c : Es} {src : Src} {l : List α} (e : α → D) (g : α → Option D)
    (hi : evIt F it ρ st = .ok src st) (hm : src.items = l.map e) (hc : src.chk st = true) (hl : l.length ≤ 16777216)
    (hb : ∀ a ∈ l, compF F elt vs tg c ρ (e a) st = .ok (g a) st) :
    evE F (.comp m elt vs tg it c) ρ st = newL m (l.filterMap g) st := by
  rw [w_comp, hi, bnd_ok, hm, compL_pure hc l e g [] hb (by rw [List.length_nil, Nat.zero_add]; exact hl), bnd_ok, List.nil_append]
theorem newL_f {l : List D} (h : l.length ≤ 16777216) : newL false l st = .ok (.lst l) st := by
  unfold newL; rw [if_pos (show l.length ≤ sizeLine from h), if_neg (by decide)]
theorem newL_t {l : List D} (h : l.length ≤ 16777216) : newL true l st = .ok (.ref st.length) (st ++ [.lst l]) := by
  unfold newL; rw [if_pos (show l.length ≤ sizeLine from h), if_pos rfl]
/-- [elt for tg in it if c], nothing changed by it; where it is kept as it is -/
theorem comp_g {α β : Type} {elt : E} {vs : List Nat} {tg : T} {it : It} {c : Es} {src : Src} {l : List α} (e : α → D) (g : α → Option β) (e' : β → D)
    (hi : evIt F it ρ st = .ok src st) (hm : src.items = l.map e) (hc : src.chk st = true) (hl : l.length ≤ 16777216)
    (hb : ∀ a ∈ l, compF F elt vs tg c ρ (e a) st = .ok ((g a).map e') st) :
    evE F (.comp false elt vs tg it c) ρ st = .ok (.lst ((l.filterMap g).map e')) st := by
  rw [comp_l e (fun a => (g a).map e') hi hm hc hl hb, List.map_filterMap, newL_f]
  exact Nat.le_trans (List.length_filterMap_le _ _) hl
theorem comp_gT {α β : Type} {elt : E} {vs : List Nat} {tg : T} {it : It} {c : Es} {src : Src} {l : List α} (e : α → D) (g : α → Option β) (e' : β → D)
    (hi : evIt F it ρ st = .ok src st) (hm : src.items = l.map e) (hc : src.chk st = true) (hl : l.length ≤ 16777216)
    (hb : ∀ a ∈ l, compF F elt vs tg c ρ (e a) st = .ok ((g a).map e') st) :
    evE F (.comp true elt vs tg it c) ρ st = .ok (.ref st.length) (st ++ [.lst ((l.filterMap g).map e')]) := by
  rw [comp_l e (fun a => (g a).map e') hi hm hc hl hb, List.map_filterMap, newL_t]
  exact Nat.le_trans (List.length_filterMap_le _ _) hl
/-- no test -/
theorem comp_m {α β : Type} {elt : E} {vs : List Nat} {tg : T} {it : It} {c : Es} {src : Src} {l : List α} (e : α → D) (q : α → β) (e' : β → D)
    (hi : evIt F it ρ st = .ok src st) (hm : src.items = l.map e) (hc : src.chk st = true) (hl : l.length ≤ 16777216)
    (hb : ∀ a ∈ l, compF F elt vs tg c ρ (e a) st = .ok (some (e' (q a))) st) :
    evE F (.comp false elt vs tg it c) ρ st = .ok (.lst ((l.map q).map e')) st := by
  rw [comp_g e (fun a => some (q a)) e' hi hm hc hl hb, fmap_all]
theorem comp_mT {α β : Type} {elt : E} {vs : List Nat} {tg : T} {it : It} {c : Es} {src : Src} {l : List α} (e : α → D) (q : α → β) (e' : β → D)
    (hi : evIt F it ρ st = .ok src st) (hm : src.items = l.map e) (hc : src.chk st = true) (hl : l.length ≤ 16777216)
    (hb : ∀ a ∈ l, compF F elt vs tg c ρ (e a) st = .ok (some (e' (q a))) st) :
    evE F (.comp true elt vs tg it c) ρ st = .ok (.ref st.length) (st ++ [.lst ((l.map q).map e')]) := by
  rw [comp_gT e (fun a => some (q a)) e' hi hm hc hl hb, fmap_all]
/-- where so -/
theorem comp_f {α β : Type} {elt : E} {vs : List Nat} {tg : T} {it : It} {c : Es} {src : Src} {l : List α} (e : α → D) (p : α → Bool) (q : α → β) (e' : β → D)
    (hi : evIt F it ρ st = .ok src st) (hm : src.items = l.map e) (hc : src.chk st = true) (hl : l.length ≤ 16777216)
    (hb : ∀ a ∈ l, compF F elt vs tg c ρ (e a) st = if p a = true then .ok (some (e' (q a))) st else .ok none st) :
    evE F (.comp false elt vs tg it c) ρ st = .ok (.lst (((l.filter p).map q).map e')) st := by
  rw [comp_g e (fun a => if p a = true then some (q a) else none) e' hi hm hc hl fun a ha => ?_, fmap_if]
  rw [hb a ha]; cases p a <;> rfl
/-! ### loops -/
theorem forL_inv {α : Type} {e : α → D} {tg : T} {body : Env → Store → SRes} {src : Src} (I : List α → List α → Env → Store → Prop) :
    ∀ (post pre : List α) (ρ : Env) (st : Store), I pre post ρ st →
    (∀ pre a post ρ st, I pre (a :: post) ρ st → src.chk st = true ∧ ∃ ρ', bindT tg (e a) ρ = some ρ' ∧ ∃ ρ2 st2, body ρ' st = .ok .nx ρ2 st2 ∧ I (pre ++ [a]) post ρ2 st2) →
    (∀ pre ρ st, I pre [] ρ st → src.chk st = true) →
    ∃ ρ2 st2, forL tg body src (post.map e) ρ st = .ok .nx ρ2 st2 ∧ I (pre ++ post) [] ρ2 st2
  | [], pre, ρ, st, h, hs, hz => ⟨ρ, st, by rw [List.map_nil, forL, if_pos (hz _ _ _ h)], by rw [List.append_nil]; exact h⟩
  | a :: r, pre, ρ, st, h, hs, hz => by
    obtain ⟨h1, ρ', h2, ρ2, st2, h3, h4⟩ := hs _ _ _ _ _ h
    obtain ⟨ρ3, st3, h5, h6⟩ := forL_inv I r (pre ++ [a]) ρ2 st2 h4 hs hz
    refine ⟨ρ3, st3, ?_, by rw [List.append_assoc] at h6; exact h6⟩
    rw [List.map_cons, forL, if_pos h1, h2]
    dsimp only
    rw [h3, next_ok, h5]
/-- a loop that may hand back -/
theorem forL_ret {α : Type} {e : α → D} {tg : T} {body : Env → Store → SRes} {src : Src} (I : List α → List α → Env → Store → Prop) (Q : List α → α → List α → D → Env → Store → Prop) :
    ∀ (post pre : List α) (ρ : Env) (st : Store), I pre post ρ st →
    (∀ pre a post ρ st, I pre (a :: post) ρ st → src.chk st = true ∧ ∃ ρ', bindT tg (e a) ρ = some ρ' ∧ ∃ ρ2 st2, ((body ρ' st = .ok .nx ρ2 st2 ∧ I (pre ++ [a]) post ρ2 st2) ∨ ∃ d, body ρ' st = .ok (.rt d) ρ2 st2 ∧ Q pre a post d ρ2 st2)) →
    (∀ pre ρ st, I pre [] ρ st → src.chk st = true) →
    ∃ ρ2 st2, ((forL tg body src (post.map e) ρ st = .ok .nx ρ2 st2 ∧ I (pre ++ post) [] ρ2 st2) ∨ ∃ p a q d, pre ++ post = p ++ a :: q ∧ forL tg body src (post.map e) ρ st = .ok (.rt d) ρ2 st2 ∧ Q p a q d ρ2 st2)
  | [], pre, ρ, st, h, hs, hz => ⟨ρ, st, .inl ⟨by rw [List.map_nil, forL, if_pos (hz _ _ _ h)], by rw [List.append_nil]; exact h⟩⟩
  | a :: r, pre, ρ, st, h, hs, hz => by
    obtain ⟨h1, ρ', h2, ρ2, st2, h3⟩ := hs _ _ _ _ _ h
    rcases h3 with ⟨h3, h4⟩ | ⟨d, h3, h4⟩
    · obtain ⟨ρ3, st3, h5⟩ := forL_ret I Q r (pre ++ [a]) ρ2 st2 h4 hs hz
      refine ⟨ρ3, st3, ?_⟩
      have e0 : forL tg body src ((a :: r).map e) ρ st = forL tg body src (r.map e) ρ2 st2 := by
        rw [List.map_cons, forL, if_pos h1, h2]
        dsimp only
        rw [h3, next_ok]
      rw [e0]
      rw [List.append_assoc] at h5
      exact h5
    · refine ⟨ρ2, st2, .inr ⟨pre, a, r, d, rfl, ?_, h4⟩⟩
      rw [List.map_cons, forL, if_pos h1, h2]
      dsimp only
      rw [h3, next_rt]
/-- a comprehension that changes the store -/
theorem compL_inv {α : Type} {e : α → D} {f : D → M (Option D)} {src : Src} (I : List α → List α → List D → Store → Prop) :
    ∀ (post pre : List α) (acc : List D) (st : Store), I pre post acc st →
    (∀ pre a post acc st, I pre (a :: post) acc st → src.chk st = true ∧ acc.length < 16777216 ∧ ∃ o st2, f (e a) st = .ok o st2 ∧ I (pre ++ [a]) post (acc ++ o.toList) st2) →
    (∀ pre acc st, I pre [] acc st → src.chk st = true) →
    ∃ acc2 st2, compL f src (post.map e) acc st = .ok acc2 st2 ∧ I (pre ++ post) [] acc2 st2
  | [], pre, acc, st, h, hs, hz => ⟨acc, st, by rw [List.map_nil, compP_nil (hz _ _ _ h)], by rw [List.append_nil]; exact h⟩
  | a :: r, pre, acc, st, h, hs, hz => by
    obtain ⟨h1, hl, o, st2, h3, h4⟩ := hs _ _ _ _ _ h
    obtain ⟨acc3, st3, h5, h6⟩ := compL_inv I r (pre ++ [a]) (acc ++ o.toList) st2 h4 hs hz
    refine ⟨acc3, st3, ?_, by rw [List.append_assoc] at h6; exact h6⟩
    rw [List.map_cons, compP_cons h1 h3 hl, h5]
end
end PI
namespace PI
open PySem L2
/-! ### dicts of a comprehension -/
theorem compQ_nil {f : D → M (Option (D × D))} {src : Src} {acc : List D × List D} {st : Store} (hc : src.chk st = true) : compD f src [] acc st = .ok acc st := by
  rw [compD]; exact if_pos hc
theorem compQ_none {f : D → M (Option (D × D))} {src : Src} {x : D} {r : List D} {acc : List D × List D} {st st' : Store} (hc : src.chk st = true) (h : f x st = .ok none st') : compD f src (x :: r) acc st = compD f src r acc st' := by
  rw [compD]
  refine (if_pos hc).trans ?_
  rw [h]
theorem compQ_some {f : D → M (Option (D × D))} {src : Src} {x : D} {r : List D} {acc : List D × List D} {st st' : Store} {k v : D} (hc : src.chk st = true) (h : f x st = .ok (some (k, v)) st') (h1 : famOk k acc.1 = true) (h2 : acc.1.length < sizeLine) : compD f src (x :: r) acc st = compD f src r (putK acc.1 acc.2 k v) st' := by
  rw [compD]
  refine (if_pos hc).trans ?_
  rw [h]
  dsimp only
  rw [if_pos ⟨h1, h2⟩]
def dcF (F : Cf) (k x : E) (vs : List Nat) (tg : T) (c : Es) (ρ : Env) (d : D) : M (Option (D × D)) := match bindT tg d (wipeD ρ vs) with
      | some ρ' => do
        let b ← evTs F c ρ'
        if b = true then do
          let y ← evE F k ρ'
          let z ← evE F x ρ'
          M.pure (some (y, z))
        else M.pure none
      | none => mbad
section
variable {F : Cf} {ρ : Env} {st : Store}
theorem w_dcomp (m : Bool) (k x : E) (vs : List Nat) (tg : T) (it : It) (c : Es) : evE F (.dcomp m k x vs tg it c) ρ st = (evIt F it ρ st).bnd fun src st => (compD (dcF F k x vs tg c ρ) src src.items ([], []) st).bnd fun l st => newK m l.1 l.2 st := by
  rw [evE]; rfl
def dcO (F : Cf) (k x : E) (c : Es) (st : Store) (o : Option Env) : Res (Option (D × D)) := match o with
  | some ρ' => (evTs F c ρ' st).bnd fun b st => if b = true then (evE F k ρ' st).bnd fun y st => (evE F x ρ' st).bnd fun z st => .ok (some (y, z)) st else .ok none st
  | none => .bad
theorem dcO_some {k x : E} {c : Es} : dcO F k x c st (some ρ) = (evTs F c ρ st).bnd fun b st => if b = true then (evE F k ρ st).bnd fun y st => (evE F x ρ st).bnd fun z st => .ok (some (y, z)) st else .ok none st := rfl
theorem dcF_st {k x : E} {vs : List Nat} {tg : T} {c : Es} {d : D} : dcF F k x vs tg c ρ d st = dcO F k x c st (bindT tg d (wipeD ρ vs)) := by
  unfold dcF dcO
  cases bindT tg d (wipeD ρ vs) with
  | none => rfl
  | some ρ' =>
    show (evTs F c ρ' >>= _) st = _
    rw [bind_st]
    refine bnd_ext fun b st => ?_
    rw [ite_st]
    split
    · rw [bind_st]; first | done | rfl
    · rfl
end
/-- each once -/
def addK {α : Type} [DecidableEq α] (acc : List α) (x : α) : List α := if x ∈ acc then acc else acc ++ [x]
def once {α : Type} [DecidableEq α] (l : List α) : List α := l.foldl addK []
theorem keyA {α : Type} [DecidableEq α] {e : α → D} (h : ∀ a b, D.eqv (e a) (e b) = decide (a = b)) (a : α) : ∀ (l : List α), keyAt (e a) (l.map e) = l.findIdx? fun x => decide (x = a)
  | [] => rfl
  | b :: l => by
    unfold keyAt
    rw [List.map_cons, List.findIdx?_cons, List.findIdx?_cons, h]
    have ih := keyA h a l
    unfold keyAt at ih
    rw [ih]
theorem putK_new {α : Type} [DecidableEq α] {e : α → D} (h : ∀ a b, D.eqv (e a) (e b) = decide (a = b)) {a : α} {l : List α} (n : a ∉ l) (vs : List D) (v : D) : putK (l.map e) vs (e a) v = (l.map e ++ [e a], vs ++ [v]) := by
  unfold putK
  have z : (l.findIdx? fun x => decide (x = a)) = none := by
    rw [List.findIdx?_eq_none_iff]
    intro x hx
    exact decide_eq_false fun q => n (q ▸ hx)
  rw [keyA h, z]
theorem putK_true {α : Type} [DecidableEq α] {e : α → D} (h : ∀ a b, D.eqv (e a) (e b) = decide (a = b)) (a : α) (l : List α) (v : D) : putK (l.map e) (List.replicate l.length v) (e a) v = ((addK l a).map e, List.replicate (addK l a).length v) := by
  by_cases z : a ∈ l
  · unfold putK addK
    rw [keyA h, if_pos z]
    cases q : (l.findIdx? fun x => decide (x = a)) with
    | none =>
      rw [List.findIdx?_eq_none_iff] at q
      have := q a z
      simp at this
    | some j => dsimp only; rw [List.set_replicate_self]
  · rw [putK_new h z]
    unfold addK
    rw [if_neg z, List.map_append, List.length_append, List.length_singleton, List.replicate_succ']; rfl
theorem compQ_set {α κ : Type} [DecidableEq κ] {f : D → M (Option (D × D))} {src : Src} {st : Store} {ek : κ → D} (he : ∀ a b, D.eqv (ek a) (ek b) = decide (a = b)) (hc : src.chk st = true) {v : D} (e : α → D) (g : α → Option κ)
    (hF : ∀ (a : κ) (l : List κ), famOk (ek a) (l.map ek) = true) : ∀ (l : List α) (acc : List κ),
    (∀ a ∈ l, f (e a) st = .ok ((g a).map fun k => (ek k, v)) st) → acc.length + l.length ≤ 16777216 →
    compD f src (l.map e) (acc.map ek, List.replicate acc.length v) st = .ok (((l.filterMap g).foldl addK acc).map ek, List.replicate ((l.filterMap g).foldl addK acc).length v) st
  | [], acc, _, _ => by rw [List.map_nil, compQ_nil hc]; rfl
  | a :: r, acc, h, hl => by
    rw [List.length_cons] at hl
    rw [List.map_cons]
    have h1 := h a List.mem_cons_self
    have h2 := fun b hb => h b (List.mem_cons_of_mem a hb)
    cases hg : g a with
    | none =>
      rw [hg] at h1
      rw [compQ_none hc h1, List.filterMap_cons, hg]
      exact compQ_set he hc e g hF r acc h2 (by omega)
    | some k =>
      rw [hg] at h1
      rw [compQ_some hc h1 (hF k acc) (by show (acc.map ek).length < 16777216; rw [List.length_map]; omega), putK_true he, List.filterMap_cons, hg]
      refine compQ_set he hc e g hF r (addK acc k) h2 ?_
      have : (addK acc k).length ≤ acc.length + 1 := by unfold addK; split <;> simp
      omega
/-- {k: v for tg in it if c}, one v -/
theorem dcomp_set {α κ : Type} [DecidableEq κ] {F : Cf} {ρ : Env} {st : Store} {k x : E} {vs : List Nat} {tg : T} {it : It} {c : Es} {src : Src} {l : List α} {ek : κ → D} (he : ∀ a b, D.eqv (ek a) (ek b) = decide (a = b)) (hF : ∀ (a : κ) (l : List κ), famOk (ek a) (l.map ek) = true) (v : D) (e : α → D) (g : α → Option κ)
    (hi : evIt F it ρ st = .ok src st) (hm : src.items = l.map e) (hc : src.chk st = true) (hl : l.length ≤ 16777216)
    (hb : ∀ a ∈ l, dcF F k x vs tg c ρ (e a) st = .ok ((g a).map fun k => (ek k, v)) st) :
    evE F (.dcomp false k x vs tg it c) ρ st = .ok (.dct ((once (l.filterMap g)).map ek) (List.replicate (once (l.filterMap g)).length v)) st := by
  have z := compQ_set (f := dcF F k x vs tg c ρ) he hc e g hF l [] hb (by rw [List.length_nil]; omega)
  rw [w_dcomp, hi, bnd_ok, hm]
  have z1 : compD (dcF F k x vs tg c ρ) src (l.map e) ([], []) st = _ := z
  rw [z1, bnd_ok]; rfl
theorem compQ_map {α κ : Type} [DecidableEq κ] {f : D → M (Option (D × D))} {src : Src} {st : Store} {ek : κ → D} (he : ∀ a b, D.eqv (ek a) (ek b) = decide (a = b)) (hc : src.chk st = true) (e : α → D) (g : α → κ) (w : α → D)
    (hF : ∀ (a : κ) (l : List κ), famOk (ek a) (l.map ek) = true) : ∀ (l pre : List α),
    (∀ a ∈ l, f (e a) st = .ok (some (ek (g a), w a)) st) → ((pre ++ l).map g).Nodup → pre.length + l.length ≤ 16777216 →
    compD f src (l.map e) ((pre.map g).map ek, pre.map w) st = .ok (((pre ++ l).map g).map ek, (pre ++ l).map w) st
  | [], pre, _, _, _ => by rw [List.map_nil, compQ_nil hc, List.append_nil]
  | a :: r, pre, h, hn, hl => by
    rw [List.length_cons] at hl
    have hn2 : g a ∉ pre.map g := by
      rw [List.map_append, List.nodup_append] at hn
      intro q
      exact hn.2.2 _ q _ (by simp) rfl
    rw [List.map_cons, compQ_some hc (h a List.mem_cons_self) (hF _ _) (by show ((pre.map g).map ek).length < 16777216; simp; omega), putK_new he hn2]
    have z := compQ_map he hc e g w hF r (pre ++ [a]) (fun b hb => h b (List.mem_cons_of_mem _ hb)) (by rw [List.append_assoc]; exact hn) (by rw [List.length_append, List.length_singleton]; omega)
    rw [List.append_assoc] at z
    rw [show (pre ++ ([a] ++ r)) = pre ++ a :: r from rfl] at z
    rw [← z]
    simp
/-- {k: w for tg in it}, unlike keys -/
theorem dcomp_map {α κ : Type} [DecidableEq κ] {F : Cf} {ρ : Env} {st : Store} {k x : E} {vs : List Nat} {tg : T} {it : It} {c : Es} {src : Src} {l : List α} {ek : κ → D} (he : ∀ a b, D.eqv (ek a) (ek b) = decide (a = b)) (hF : ∀ (a : κ) (l : List κ), famOk (ek a) (l.map ek) = true) (e : α → D) (g : α → κ) (w : α → D)
    (hi : evIt F it ρ st = .ok src st) (hm : src.items = l.map e) (hc : src.chk st = true) (hl : l.length ≤ 16777216) (hn : (l.map g).Nodup)
    (hb : ∀ a ∈ l, dcF F k x vs tg c ρ (e a) st = .ok (some (ek (g a), w a)) st) :
    evE F (.dcomp false k x vs tg it c) ρ st = .ok (.dct ((l.map g).map ek) (l.map w)) st := by
  have z := compQ_map (f := dcF F k x vs tg c ρ) he hc e g w hF l [] hb hn (by rw [List.length_nil]; omega)
  rw [w_dcomp, hi, bnd_ok, hm]
  have z1 : compD (dcF F k x vs tg c ρ) src (l.map e) ([], []) st = _ := z
  rw [z1, bnd_ok]; rfl
theorem once_mem {α : Type} [DecidableEq α] {x : α} : ∀ {l acc : List α}, x ∈ l.foldl addK acc ↔ x ∈ acc ∨ x ∈ l
  | [], acc => by simp
  | a :: r, acc => by
    rw [List.foldl_cons, once_mem]
    unfold addK
    split <;> grind
theorem mem_once {α : Type} [DecidableEq α] {x : α} {l : List α} : x ∈ once l ↔ x ∈ l := by unfold once; rw [once_mem]; simp
theorem once_nd {α : Type} [DecidableEq α] : ∀ {l acc : List α}, acc.Nodup → (l.foldl addK acc).Nodup
  | [], acc, h => h
  | a :: r, acc, h => by
    rw [List.foldl_cons]
    refine once_nd ?_
    unfold addK
    split
    · exact h
    · rename_i z
      rw [List.nodup_append]
      refine ⟨h, by simp, ?_⟩
      intro x hx y hy q
      simp at hy
      subst hy; subst q; exact z hx
theorem nodup_once {α : Type} [DecidableEq α] (l : List α) : (once l).Nodup := once_nd List.nodup_nil
theorem once_len {α : Type} [DecidableEq α] : ∀ (l acc : List α), (l.foldl addK acc).length ≤ acc.length + l.length
  | [], acc => by simp
  | a :: r, acc => by
    rw [List.foldl_cons]
    have h := once_len r (addK acc a)
    have : (addK acc a).length ≤ acc.length + 1 := by unfold addK; split <;> simp
    simp only [List.length_cons]; omega
theorem len_once {α : Type} [DecidableEq α] (l : List α) : (once l).length ≤ l.length := by
  have := once_len l []; unfold once; simpa using this
end PI
set_option Elab.async false
set_option linter.all false
set_option maxRecDepth 100000
set_option maxHeartbeats 8000000
/-! PK, part C: operators and built-ins on data as it is met. -/
namespace PI
open PySem L2
section
variable {st : Store} {m : Bool}
theorem newT_ok {l : List D} (h : l.length ≤ 16777216) : newT l st = .ok (.tup l) st := by
  unfold newT; rw [if_pos (show l.length ≤ sizeLine from h)]
/-! ### numbers -/
theorem op_add (a b : Int) : op2 m .add (.int a) (.int b) st = .ok (.int (a + b)) st := rfl
theorem op_sub (a b : Int) : op2 m .sub (.int a) (.int b) st = .ok (.int (a - b)) st := rfl
theorem op_subN (a b : Nat) (h : b ≤ a) : op2 m .sub (.int (a : Int)) (.int (b : Int)) st = .ok (.int ((a - b : Nat) : Int)) st := by
  rw [op_sub, Int.ofNat_sub h]
theorem op_mul (a b : Int) (h : small64 a = true ∨ small64 b = true) : op2 m .mul (.int a) (.int b) st = .ok (.int (a * b)) st := by
  unfold op2; dsimp only; rw [if_pos h]; rfl
theorem op_mulR (a b : Int) (h : -(2 ^ 64) < b ∧ b < 2 ^ 64) : op2 m .mul (.int a) (.int b) st = .ok (.int (a * b)) st := op_mul a b (.inr (decide_eq_true h))
theorem op_mulL (a b : Int) (h : -(2 ^ 64) < a ∧ a < 2 ^ 64) : op2 m .mul (.int a) (.int b) st = .ok (.int (a * b)) st := op_mul a b (.inl (decide_eq_true h))
theorem op_fdiv (a b : Int) (h : 0 < b) (h2 : b < 1073741824) : op2 m .fdiv (.int a) (.int b) st = .ok (.int (a / b)) st := by
  unfold op2; dsimp only; rw [if_pos ⟨h, h2⟩]; rfl
theorem op_mod (a b : Int) (h : 0 < b) : op2 m .mod (.int a) (.int b) st = .ok (.int (a % b)) st := by
  unfold op2; dsimp only; rw [if_pos h]; rfl
theorem op_pow (a b : Int) (h : 0 ≤ b ∧ b ≤ 1000000 ∧ a.natAbs < 2 ^ 64) : op2 m .pow (.int a) (.int b) st = .ok (.int (a ^ b.toNat)) st := by
  unfold op2; dsimp only; rw [if_pos h]; rfl
theorem op_shl (a b : Int) (h : 0 ≤ b ∧ b ≤ 1000000 ∧ a.natAbs < 2 ^ 64) : op2 m .shl (.int a) (.int b) st = .ok (.int (a * 2 ^ b.toNat)) st := by
  unfold op2; dsimp only; rw [if_pos h]; rfl
theorem op_shl1 (n : Nat) (h : n ≤ 1000000) : op2 m .shl (.int 1) (.int (n : Int)) st = .ok (.int ((2 ^ n : Nat) : Int)) st := by
  rw [op_shl 1 n ⟨by omega, by omega, by decide⟩, Int.one_mul, Int.toNat_natCast, Int.natCast_pow]; rfl
theorem op_shr (a b : Int) (h : 0 ≤ b) : op2 m .shr (.int a) (.int b) st = .ok (.int (a / 2 ^ b.toNat)) st := by
  unfold op2; dsimp only; rw [if_pos h]; rfl
theorem bitAnd_nat (a b : Nat) : Builtin.bitAnd (a : Int) (b : Int) = ((a &&& b : Nat) : Int) := by
  unfold Builtin.bitAnd
  rw [decide_eq_true (show (0 : Int) ≤ (a : Int) by omega), decide_eq_true (show (0 : Int) ≤ (b : Int) by omega)]
  rfl
theorem op_andN (a b : Nat) : op2 m .and (.int (a : Int)) (.int (b : Int)) st = .ok (.int ((a &&& b : Nat) : Int)) st := by
  unfold op2; dsimp only; rw [bitAnd_nat]; rfl
theorem op_and (a b : Int) : op2 m .and (.int a) (.int b) st = .ok (.int (Builtin.bitAnd a b)) st := rfl
theorem op_or (a b : Int) : op2 m .or (.int a) (.int b) st = .ok (.int (Builtin.bitOr a b)) st := rfl
theorem op_xor (a b : Int) : op2 m .xor (.int a) (.int b) st = .ok (.int (Builtin.bitXor a b)) st := rfl
theorem o_neg (a : Int) : op1 .neg (.int a) st = .ok (.int (-a)) st := rfl
theorem o_inv (a : Int) : op1 .inv (.int a) st = .ok (.int (Builtin.bitNot a)) st := rfl
/-! ### rows -/
theorem op_addT (x y : List D) (h : x.length + y.length ≤ 16777216) : op2 m .add (.tup x) (.tup y) st = .ok (.tup (x ++ y)) st := by
  unfold op2; dsimp only; rw [if_pos (show x.length ≤ sizeLine ∧ y.length ≤ sizeLine ∧ x.length + y.length ≤ sizeLine from ⟨by show _ ≤ 16777216; omega, by show _ ≤ 16777216; omega, h⟩)]
theorem op_addL (x y : List D) : op2 m .add (.lst x) (.lst y) st = newL m (x ++ y) st := by
  unfold op2; dsimp only; rw [bind_st]; rfl
theorem op_mulT (x : List D) (k : Int) (h : x ≠ [] ∧ 1 ≤ k ∧ k ≤ 1000 ∧ x.length ≤ 1000) : op2 m .mul (.tup x) (.int k) st = .ok (.tup (repL x k)) st := by
  unfold op2; dsimp only; rw [if_pos h]
theorem op_mulLs (x : List D) (k : Int) (h : -(2 ^ 63) ≤ k ∧ k < 2 ^ 63 ∧ x.length * k.toNat ≤ 16777216) : op2 m .mul (.lst x) (.int k) st = newL m (repL x k) st := by
  unfold op2; dsimp only; rw [bind_st]
  show (if -(2 ^ 63) ≤ k ∧ k < 2 ^ 63 ∧ x.length * k.toNat ≤ sizeLine then newL m (repL x k) else mbad) st = _
  rw [ite_st]
  exact if_pos h
theorem repL_1 (d : D) (n : Nat) : repL [d] (n : Int) = List.replicate n d := by
  unfold repL; rw [Int.toNat_natCast]
  induction n with
  | zero => rfl
  | succ n ih => rw [List.replicate_succ, List.flatten_cons, ih, List.replicate_succ]; rfl
/-! ### plain, alike -/
theorem fit_int (i : Int) (n : Nat) : D.fitN (.int i) n = true := by rw [D.fitN]
theorem fit_bl (i : Bool) (n : Nat) : D.fitN (.bl i) n = true := by rw [D.fitN]
theorem fit_non (n : Nat) : D.fitN .non n = true := by rw [D.fitN]
theorem fit_str (s : Str) (n : Nat) : D.fitN (.str s) n = PyData.strOk s := by rw [D.fitN]
theorem fit_tup (l : List D) (n : Nat) : D.fitN (.tup l) (n + 1) = D.fitL l n := by rw [D.fitN]
theorem fit_lst (l : List D) (n : Nat) : D.fitN (.lst l) (n + 1) = D.fitL l n := by rw [D.fitN]
theorem fitL_nil (n : Nat) : D.fitL [] n = true := by rw [D.fitL]
theorem fitL_cons (d : D) (l : List D) (n : Nat) : D.fitL (d :: l) n = (D.fitN d n && D.fitL l n) := by rw [D.fitL]
theorem fitL_all (n : Nat) : ∀ (l : List D), D.fitL l n = l.all fun d => D.fitN d n
  | [] => by rw [fitL_nil]; rfl
  | d :: r => by rw [fitL_cons, fitL_all n r]; rfl
theorem fitL_app (n : Nat) (a b : List D) : D.fitL (a ++ b) n = (D.fitL a n && D.fitL b n) := by simp [fitL_all]
theorem fitL_map {α : Type} {e : α → D} {n : Nat} {l : List α} (h : ∀ a ∈ l, D.fitN (e a) n = true) : D.fitL (l.map e) n = true := by
  rw [fitL_all, List.all_map, List.all_eq_true]; exact h
theorem fit_oD (o : Option Int) (n : Nat) : D.fitN (oD o) n = true := by cases o <;> simp [oD, fit_int, fit_non]
theorem fit_nD (a : Nat) (n : Nat) : D.fitN (nD a) n = true := fit_int _ _
theorem fitL_nD (l : List Nat) (n : Nat) : D.fitL (l.map nD) n = true := fitL_map fun a _ => fit_nD a n
theorem fitL_oD (l : List (Option Int)) (n : Nat) : D.fitL (l.map oD) n = true := fitL_map fun a _ => fit_oD a n
theorem fitL_int (l : List Int) (n : Nat) : D.fitL (l.map .int) n = true := fitL_map fun a _ => fit_int a n
theorem fitL_bl (l : List Bool) (n : Nat) : D.fitL (l.map .bl) n = true := fitL_map fun a _ => fit_bl a n
theorem fit_tN (l : List Nat) (n : Nat) : D.fitN (tN l) (n + 1) = true := by rw [tN, fit_tup, fitL_nD]
theorem fitL_tN (l : List (List Nat)) (n : Nat) : D.fitL (l.map tN) (n + 1) = true := fitL_map fun a _ => fit_tN a n
theorem plain_eq (d : D) : d.plain = D.fitN d 50 := rfl
theorem plainL_eq (l : List D) : D.plainL l = D.fitL l 49 := rfl
theorem eqv_int (a b : Int) : D.eqv (.int a) (.int b) = decide (a = b) := by rw [D.eqv]; rfl
theorem eqv_str (a b : Str) : D.eqv (.str a) (.str b) = decide (a = b) := by rw [D.eqv]
theorem eqv_bl (a b : Bool) : D.eqv (.bl a) (.bl b) = decide (a = b) := by rw [D.eqv]; cases a <;> cases b <;> rfl
theorem eqv_nn : D.eqv .non .non = true := by rw [D.eqv]
theorem eqv_ni (i : Int) : D.eqv .non (.int i) = false := by rw [D.eqv] <;> simp
theorem eqv_in (i : Int) : D.eqv (.int i) .non = false := by rw [D.eqv] <;> simp
theorem eqv_nN (i : Nat) : D.eqv .non (nD i) = false := eqv_ni _
theorem eqv_oo (a b : Option Int) : D.eqv (oD a) (oD b) = decide (a = b) := by
  cases a <;> cases b <;> simp [oD, eqv_nn, eqv_ni, eqv_in, eqv_int]
theorem eqv_oi (a : Option Int) (i : Int) : D.eqv (oD a) (.int i) = decide (a = some i) := eqv_oo a (some i)
theorem eqv_io (a : Option Int) (i : Int) : D.eqv (.int i) (oD a) = decide (some i = a) := eqv_oo (some i) a
theorem eqv_nD (a b : Nat) : D.eqv (nD a) (nD b) = decide (a = b) := by
  unfold nD; rw [eqv_int]; congr 1; simp [Int.ofNat_inj]
theorem eqv_iN (a : Nat) (b : Nat) : D.eqv (.int a) (nD b) = decide (a = b) := eqv_nD a b
theorem eqv_Ni (a : Nat) (b : Nat) : D.eqv (nD a) (.int b) = decide (a = b) := eqv_nD a b
theorem eqv_tt (a b : List D) : D.eqv (.tup a) (.tup b) = D.eqvL a b := by rw [D.eqv]
theorem eqv_ll (a b : List D) : D.eqv (.lst a) (.lst b) = D.eqvL a b := by rw [D.eqv]
theorem eqvL_nn : D.eqvL [] [] = true := by rw [D.eqvL]
theorem eqvL_nc (d : D) (l : List D) : D.eqvL [] (d :: l) = false := by rw [D.eqvL] <;> simp
theorem eqvL_cn (d : D) (l : List D) : D.eqvL (d :: l) [] = false := by rw [D.eqvL] <;> simp
theorem eqvL_cc (d e : D) (l r : List D) : D.eqvL (d :: l) (e :: r) = (D.eqv d e && D.eqvL l r) := by rw [D.eqvL]
theorem eqvL_map {α : Type} [DecidableEq α] {e : α → D} (h : ∀ a b, D.eqv (e a) (e b) = decide (a = b)) : ∀ (l r : List α), D.eqvL (l.map e) (r.map e) = decide (l = r)
  | [], [] => by simp [eqvL_nn]
  | [], _ :: _ => by simp [eqvL_nc]
  | _ :: _, [] => by simp [eqvL_cn]
  | a :: l, b :: r => by
    rw [List.map_cons, List.map_cons, eqvL_cc, h, eqvL_map h l r]
    by_cases h1 : a = b <;> by_cases h2 : l = r <;> simp [h1, h2]
theorem eqvL_nD (l r : List Nat) : D.eqvL (l.map nD) (r.map nD) = decide (l = r) := eqvL_map eqv_nD l r
theorem eqvL_oD (l r : List (Option Int)) : D.eqvL (l.map oD) (r.map oD) = decide (l = r) := eqvL_map eqv_oo l r
theorem eqv_tN (l r : List Nat) : D.eqv (tN l) (tN r) = decide (l = r) := by unfold tN; rw [eqv_tt, eqvL_nD]
theorem eqvL_tN (l r : List (List Nat)) : D.eqvL (l.map tN) (r.map tN) = decide (l = r) := eqvL_map eqv_tN l r
theorem c_eq {a b : D} (ha : ∀ n, a ≠ .ref n) (hb : ∀ n, b ≠ .ref n) (h1 : a.plain = true) (h2 : b.plain = true) : cmpD .eq a b st = .ok (D.eqv a b) st := by
  have da : deref a st = .ok a st := by cases a <;> first | rfl | exact absurd rfl (ha _)
  have db : deref b st = .ok b st := by cases b <;> first | rfl | exact absurd rfl (hb _)
  unfold cmpD; dsimp only
  rw [bind_st, da, bnd_ok, bind_st, db, bnd_ok, ite_st, if_pos ⟨h1, h2⟩]; rfl
theorem c_ne {a b : D} (ha : ∀ n, a ≠ .ref n) (hb : ∀ n, b ≠ .ref n) (h1 : a.plain = true) (h2 : b.plain = true) : cmpD .ne a b st = .ok (!D.eqv a b) st := by
  have da : deref a st = .ok a st := by cases a <;> first | rfl | exact absurd rfl (ha _)
  have db : deref b st = .ok b st := by cases b <;> first | rfl | exact absurd rfl (hb _)
  unfold cmpD; dsimp only
  rw [bind_st, da, bnd_ok, bind_st, db, bnd_ok, ite_st, if_pos ⟨h1, h2⟩]; rfl
theorem c_eq_ii (a b : Int) : cmpD .eq (.int a) (.int b) st = .ok (decide (a = b)) st := by rw [c_eq (by nofun) (by nofun) (fit_int _ _) (fit_int _ _), eqv_int]
theorem c_ne_ii (a b : Int) : cmpD .ne (.int a) (.int b) st = .ok (!decide (a = b)) st := by rw [c_ne (by nofun) (by nofun) (fit_int _ _) (fit_int _ _), eqv_int]
theorem oD_nr (a : Option Int) : ∀ n, oD a ≠ .ref n := by cases a <;> nofun
theorem c_eq_oi (a : Option Int) (b : Int) : cmpD .eq (oD a) (.int b) st = .ok (decide (a = some b)) st := by rw [c_eq (oD_nr a) (by nofun) (fit_oD _ _) (fit_int _ _), eqv_oi]
theorem c_eq_oo (a b : Option Int) : cmpD .eq (oD a) (oD b) st = .ok (decide (a = b)) st := by rw [c_eq (oD_nr a) (oD_nr b) (fit_oD _ _) (fit_oD _ _), eqv_oo]
theorem c_ne_oo (a b : Option Int) : cmpD .ne (oD a) (oD b) st = .ok (!decide (a = b)) st := by rw [c_ne (oD_nr a) (oD_nr b) (fit_oD _ _) (fit_oD _ _), eqv_oo]
theorem c_eq_bb (a b : Bool) : cmpD .eq (.bl a) (.bl b) st = .ok (decide (a = b)) st := by rw [c_eq (by nofun) (by nofun) (fit_bl _ _) (fit_bl _ _), eqv_bl]
theorem c_ne_bb (a b : Bool) : cmpD .ne (.bl a) (.bl b) st = .ok (!decide (a = b)) st := by rw [c_ne (by nofun) (by nofun) (fit_bl _ _) (fit_bl _ _), eqv_bl]
theorem c_eq_tt (a b : List D) (h1 : D.fitL a 49 = true) (h2 : D.fitL b 49 = true) : cmpD .eq (.tup a) (.tup b) st = .ok (D.eqvL a b) st := by
  rw [c_eq (by nofun) (by nofun) (by rw [plain_eq, fit_tup]; exact h1) (by rw [plain_eq, fit_tup]; exact h2), eqv_tt]
theorem c_ne_tt (a b : List D) (h1 : D.fitL a 49 = true) (h2 : D.fitL b 49 = true) : cmpD .ne (.tup a) (.tup b) st = .ok (!D.eqvL a b) st := by
  rw [c_ne (by nofun) (by nofun) (by rw [plain_eq, fit_tup]; exact h1) (by rw [plain_eq, fit_tup]; exact h2), eqv_tt]
theorem c_eq_ll (a b : List D) (h1 : D.fitL a 49 = true) (h2 : D.fitL b 49 = true) : cmpD .eq (.lst a) (.lst b) st = .ok (D.eqvL a b) st := by
  rw [c_eq (by nofun) (by nofun) (by rw [plain_eq, fit_lst]; exact h1) (by rw [plain_eq, fit_lst]; exact h2), eqv_ll]
theorem c_ne_ll (a b : List D) (h1 : D.fitL a 49 = true) (h2 : D.fitL b 49 = true) : cmpD .ne (.lst a) (.lst b) st = .ok (!D.eqvL a b) st := by
  rw [c_ne (by nofun) (by nofun) (by rw [plain_eq, fit_lst]; exact h1) (by rw [plain_eq, fit_lst]; exact h2), eqv_ll]
theorem c_lt (a b : Int) : cmpD .lt (.int a) (.int b) st = .ok (decide (a < b)) st := rfl
theorem c_le (a b : Int) : cmpD .le (.int a) (.int b) st = .ok (decide (a ≤ b)) st := rfl
theorem c_gt (a b : Int) : cmpD .gt (.int a) (.int b) st = .ok (decide (b < a)) st := rfl
theorem c_ge (a b : Int) : cmpD .ge (.int a) (.int b) st = .ok (decide (b ≤ a)) st := rfl
theorem c_in (x d : D) : cmpD .inn x d st = inD x d st := rfl
theorem c_ni (x d : D) : cmpD .nin x d st = (inD x d st).bnd fun c st => .ok (!c) st := by unfold cmpD; dsimp only; rw [bind_st]; rfl
/-! ### in -/
theorem memD_map {α : Type} [DecidableEq α] {e : α → D} (h : ∀ a b, D.eqv (e a) (e b) = decide (a = b)) (a : α) (l : List α) : memD (e a) (l.map e) = decide (a ∈ l) := by
  unfold memD
  rw [List.any_map]
  by_cases z : a ∈ l
  · rw [decide_eq_true z, List.any_eq_true]
    exact ⟨a, z, by show D.eqv (e a) (e a) = true; rw [h]; simp⟩
  · rw [decide_eq_false z, List.any_eq_false]
    intro x hx
    show ¬ D.eqv (e x) (e a) = true
    rw [h]; intro q
    exact z (of_decide_eq_true q ▸ hx)
theorem in_tup {x : D} {l : List D} (h1 : D.fitN x 50 = true) (h2 : D.fitL l 49 = true) : inD x (.tup l) st = .ok (memD x l) st := by
  unfold inD; dsimp only; rw [if_pos ⟨h1, h2⟩]
theorem in_lst {x : D} {l : List D} (h1 : D.fitN x 50 = true) (h2 : D.fitL l 49 = true) : inD x (.lst l) st = .ok (memD x l) st := by
  unfold inD; dsimp only; rw [if_pos ⟨h1, h2⟩]
theorem in_tN (a : Nat) (l : List Nat) : inD (.int (a : Int)) (.tup (l.map nD)) st = .ok (decide (a ∈ l)) st := by
  rw [in_tup (fit_int _ _) (fitL_nD _ _)]; exact congrArg (Res.ok · st) (memD_map eqv_nD a l)
theorem in_lN (a : Nat) (l : List Nat) : inD (.int (a : Int)) (.lst (l.map nD)) st = .ok (decide (a ∈ l)) st := by
  rw [in_lst (fit_int _ _) (fitL_nD _ _)]; exact congrArg (Res.ok · st) (memD_map eqv_nD a l)
theorem in_nlO (l : List (Option Int)) : inD .non (.lst (l.map oD)) st = .ok (decide (none ∈ l)) st := by
  rw [in_lst (fit_non _) (fitL_oD _ _)]; refine congrArg (Res.ok · st) ((memD_map eqv_oo none l).trans ?_); congr
theorem leaf_nD (l : List Nat) : (l.map nD).all D.isLeaf = true := by rw [List.all_map, List.all_eq_true]; intro a _; rfl
theorem famOk_nD (a : Nat) (l : List Nat) : famOk (.int (a : Int)) (l.map nD) = true := by
  unfold famOk; rw [leaf_nD]; rfl
theorem keyA_some {α : Type} [DecidableEq α] {e : α → D} (h : ∀ a b, D.eqv (e a) (e b) = decide (a = b)) (a : α) (l : List α) : (keyAt (e a) (l.map e)).isSome = decide (a ∈ l) := by
  rw [← memD_map h a l]
  unfold keyAt memD
  rw [List.findIdx?_isSome]
theorem in_dN (a : Nat) (l : List Nat) (v : List D) : inD (.int (a : Int)) (.dct (l.map nD) v) st = .ok (decide (a ∈ l)) st := by
  unfold inD; dsimp only
  rw [if_pos (famOk_nD a l)]
  exact congrArg (Res.ok · st) (keyA_some eqv_nD a l)
/-! ### places -/
theorem ix_tup {l : List D} {i : Int} (h : 0 ≤ i) (h2 : i < l.length) : getIx (.tup l) (.int i) st = .ok l[i.toNat]! st := by
  unfold getIx place L2.ixN; dsimp only
  rw [if_pos h, if_pos h2]; dsimp only
  have z : i.toNat < l.length := by omega
  rw [List.getElem?_eq_getElem z, getElem!_pos l i.toNat z]
theorem ix_lst {l : List D} {i : Int} (h : 0 ≤ i) (h2 : i < l.length) : getIx (.lst l) (.int i) st = .ok l[i.toNat]! st := by
  unfold getIx place L2.ixN; dsimp only
  rw [if_pos h, if_pos h2]; dsimp only
  have z : i.toNat < l.length := by omega
  rw [List.getElem?_eq_getElem z, getElem!_pos l i.toNat z]
theorem ix_tM {α : Type} [Inhabited α] {e : α → D} {l : List α} {i : Int} (h : 0 ≤ i) (h2 : i < l.length) : getIx (.tup (l.map e)) (.int i) st = .ok (e l[i.toNat]!) st := by
  rw [ix_tup h (by rw [List.length_map]; exact h2)]
  have z : i.toNat < l.length := by omega
  rw [getElem!_pos (l.map e) i.toNat (by rw [List.length_map]; exact z), List.getElem_map, getElem!_pos l i.toNat z]
theorem ix_lM {α : Type} [Inhabited α] {e : α → D} {l : List α} {i : Int} (h : 0 ≤ i) (h2 : i < l.length) : getIx (.lst (l.map e)) (.int i) st = .ok (e l[i.toNat]!) st := by
  rw [ix_lst h (by rw [List.length_map]; exact h2)]
  have z : i.toNat < l.length := by omega
  rw [getElem!_pos (l.map e) i.toNat (by rw [List.length_map]; exact z), List.getElem_map, getElem!_pos l i.toNat z]
theorem ix_tN {l : List D} {n : Nat} {a : D} (h : l[n]? = some a) : getIx (.tup l) (.int (n : Int)) st = .ok a st := by
  obtain ⟨h1, h2⟩ := List.getElem?_eq_some_iff.mp h
  rw [ix_tup (by omega) (by omega), Int.toNat_natCast, getElem!_pos l n h1, h2]
theorem ix_t0 (a : D) (l : List D) : getIx (.tup (a :: l)) (.int 0) st = .ok a st := ix_tN (n := 0) rfl
theorem ix_t1 (a b : D) (l : List D) : getIx (.tup (a :: b :: l)) (.int 1) st = .ok b st := ix_tN (n := 1) rfl
theorem ix_t2 (a b c : D) (l : List D) : getIx (.tup (a :: b :: c :: l)) (.int 2) st = .ok c st := ix_tN (n := 2) rfl
/-! ### built-ins -/
theorem b_lenT (l : List D) : bi m .len [.tup l] st = .ok (.int (l.length : Nat)) st := rfl
theorem b_lenL (l : List D) : bi m .len [.lst l] st = .ok (.int (l.length : Nat)) st := rfl
theorem b_abs (i : Int) : bi m .abs [.int i] st = .ok (.int (if i < 0 then -i else i)) st := rfl
theorem b_int (i : Int) : bi m .int [.int i] st = .ok (.int i) st := rfl
theorem toInts_map : ∀ (l : List Int), toInts (l.map .int) = some l
  | [] => by rw [List.map_nil, toInts]
  | a :: l => by rw [List.map_cons, toInts, toInts_map l]; rfl
theorem toInts_nD : ∀ (l : List Nat), toInts (l.map nD) = some (l.map fun (n : Nat) => (n : Int))
  | [] => by rw [List.map_nil, toInts]; rfl
  | a :: l => by rw [List.map_cons, nD_ap, toInts, toInts_nD l]; rfl
theorem toBools_map : ∀ (l : List Bool), toBools (l.map .bl) = some l
  | [] => by rw [List.map_nil, toBools]
  | a :: l => by rw [List.map_cons, toBools, toBools_map l]; rfl
theorem toInts_cons (i : Int) (l : List D) : toInts (.int i :: l) = (toInts l).map (i :: ·) := by rw [toInts]
theorem toInts_nil : toInts [] = some [] := by rw [toInts]
theorem mof_some {α : Type} (a : α) : (mof (some a) : M α) st = .ok a st := rfl
theorem asL_lst (l : List D) : asL (.lst l) st = .ok l st := rfl
theorem b_sum (l : List Int) : bi m .sum [.lst (l.map .int)] st = .ok (.int l.sum) st := by
  unfold bi; dsimp only; rw [bind_st, asL_lst, bnd_ok, bind_st, toInts_map, mof_some, bnd_ok]; rfl
theorem b_sumN (l : List Nat) : bi m .sum [.lst (l.map nD)] st = .ok (.int (l.sum : Nat)) st := by
  unfold bi; dsimp only; rw [bind_st, asL_lst, bnd_ok, bind_st, toInts_nD, mof_some, bnd_ok]
  have z : ((l.map fun (n : Nat) => (n : Int)).sum) = ((l.sum : Nat) : Int) := by
    induction l with
    | nil => rfl
    | cons a l ih => simp [ih]
  rw [z]; rfl
theorem b_min {l : List Int} {i : Int} (h : minI l = some i) : bi m .min [.lst (l.map .int)] st = .ok (.int i) st := by
  unfold bi; dsimp only; rw [bind_st, asL_lst, bnd_ok, bind_st, toInts_map, mof_some, bnd_ok, bind_st, h, mof_some, bnd_ok]; rfl
theorem b_max {l : List Int} {i : Int} (h : maxI l = some i) : bi m .max [.lst (l.map .int)] st = .ok (.int i) st := by
  unfold bi; dsimp only; rw [bind_st, asL_lst, bnd_ok, bind_st, toInts_map, mof_some, bnd_ok, bind_st, h, mof_some, bnd_ok]; rfl
theorem b_min2 (a b : Int) : bi m .min [.int a, .int b] st = .ok (.int (if b < a then b else a)) st := rfl
theorem b_max2 (a b : Int) : bi m .max [.int a, .int b] st = .ok (.int (if b > a then b else a)) st := rfl
theorem b_all (l : List Bool) : bi m .all [.lst (l.map .bl)] st = .ok (.bl (l.all id)) st := by
  unfold bi; dsimp only; rw [bind_st, asL_lst, bnd_ok, bind_st, toBools_map, mof_some, bnd_ok]; rfl
theorem b_any (l : List Bool) : bi m .any [.lst (l.map .bl)] st = .ok (.bl (l.any id)) st := by
  unfold bi; dsimp only; rw [bind_st, asL_lst, bnd_ok, bind_st, toBools_map, mof_some, bnd_ok]; rfl
theorem b_tupL {l : List D} (h : l.length ≤ 16777216) : bi m .tuple [.lst l] st = .ok (.tup l) st := by
  unfold bi; dsimp only; rw [bind_st]; exact newT_ok h
theorem b_tupT {l : List D} (h : l.length ≤ 16777216) : bi m .tuple [.tup l] st = .ok (.tup l) st := by
  unfold bi; dsimp only; rw [bind_st]; exact newT_ok h
theorem b_listT (l : List D) : bi m .list [.tup l] st = newL m l st := by
  unfold bi; dsimp only; rw [bind_st]; rfl
theorem b_listL (l : List D) : bi m .list [.lst l] st = newL m l st := by
  unfold bi; dsimp only; rw [bind_st]; rfl
theorem b_sortL {l : List D} (h : sortOk l = true) : bi m .sorted [.lst l] st = newL m (sortD l) st := by
  unfold bi; dsimp only; rw [bind_st]
  show (if sortOk l = true then newL m (sortD l) else mbad) st = _
  rw [ite_st, if_pos h]
theorem b_sortT {l : List D} (h : sortOk l = true) : bi m .sorted [.tup l] st = newL m (sortD l) st := by
  unfold bi; dsimp only; rw [bind_st]
  show (if sortOk l = true then newL m (sortD l) else mbad) st = _
  rw [ite_st, if_pos h]
theorem b_sortD {l v : List D} (h : sortOk l = true) : bi m .sorted [.dct l v] st = newL m (sortD l) st := by
  unfold bi; dsimp only; rw [bind_st]
  show (if sortOk l = true then newL m (sortD l) else mbad) st = _
  rw [ite_st, if_pos h]
theorem minR_map (l : List Int) (d : D) : minR (minI l) d st = .ok ((minI l).elim d .int) st := by unfold minR; cases minI l <;> rfl
/-! ### kinds -/
theorem ty_int (i : Int) (t : Ty) : isTy (.int i) t st = .ok (decide (t = .int)) st := by cases t <;> rfl
theorem ty_bl (i : Bool) (t : Ty) : isTy (.bl i) t st = .ok (decide (t = .int ∨ t = .bool)) st := by cases t <;> rfl
theorem ty_str (i : Str) (t : Ty) : isTy (.str i) t st = .ok (decide (t = .str)) st := by cases t <;> rfl
theorem ty_tup (i : List D) (t : Ty) : isTy (.tup i) t st = .ok (decide (t = .tuple)) st := by cases t <;> rfl
theorem ty_lst (i : List D) (t : Ty) : isTy (.lst i) t st = .ok (decide (t = .list)) st := by cases t <;> rfl
theorem ty_non (t : Ty) : isTy .non t st = .ok false st := by cases t <;> rfl
theorem ty_dct (k v : List D) (t : Ty) : isTy (.dct k v) t st = .ok (decide (t = .dict)) st := by cases t <;> rfl
theorem ty_scr (k : List Int) (t : Ty) : isTy (.scr k) t st = .ok (decide (t = .list)) st := by cases t <;> rfl
/-! ### what is walked -/
theorem src_tup (l : List D) : srcOf (.tup l) st = .ok ⟨[], l, false⟩ st := rfl
theorem src_lst (l : List D) : srcOf (.lst l) st = .ok ⟨[], l, true⟩ st := rfl
theorem chk_nil (l : List D) (b : Bool) : (⟨[], l, b⟩ : Src).chk st = true := rfl
theorem rng1 (n : Nat) (h : n < 4611686018427387904) : rangeSrc [.int (n : Int)] st = .ok ⟨[], (List.range n).map nD, true⟩ st := by
  unfold rangeSrc; dsimp only
  rw [if_pos (by constructor <;> omega), Int.toNat_natCast]
  unfold intsD
  have z : ((fun i : Nat => D.int (0 + (i : Nat))) : Nat → D) = nD := by funext i; unfold nD; rw [Int.zero_add]
  rw [z]; rfl
theorem rng2 (a n : Nat) (h : n < 4611686018427387904) (h2 : a < 4611686018427387904) : rangeSrc [.int (a : Int), .int (n : Int)] st = .ok ⟨[], (List.range' a (n - a)).map nD, true⟩ st := by
  unfold rangeSrc; dsimp only
  rw [if_pos (by refine ⟨?_, ?_, ?_, ?_⟩ <;> omega)]
  unfold intsD
  rw [show ((n : Int) - (a : Int)).toNat = n - a from by omega, List.range'_eq_map_range, List.map_map]
  have z : ((fun i : Nat => D.int ((a : Int) + (i : Nat))) : Nat → D) = nD ∘ fun x => a + x := by funext i; show _ = nD (a + i); unfold nD; rw [Int.natCast_add]
  rw [z]; rfl
theorem rng1a (n : Nat) (h : n < 4611686018427387904) : rangeSrc [.int 1, .int (n : Int)] st = .ok ⟨[], (List.range' 1 (n - 1)).map nD, true⟩ st := rng2 1 n h (by decide)
theorem zipIdx_eq {α : Type} [Inhabited α] (l : List α) : l.zipIdx = (List.range l.length).map fun i => (l[i]!, i) := by
  apply List.ext_getElem
  · simp
  · intro i h1 h2
    rw [List.length_zipIdx] at h1
    simp [getElem!_pos l i h1, List.getElem?_eq_getElem h1]
theorem numbered_eq {α : Type} (e : α → D) : ∀ (l : List α) (i : Nat), numbered i (l.map e) = (l.zipIdx i).map fun p => .tup [nD p.2, e p.1]
  | [], _ => by rw [List.map_nil, numbered]; rfl
  | a :: l, i => by rw [List.map_cons, numbered, numbered_eq e l, List.zipIdx_cons, List.map_cons]; rfl
theorem numbered_map {α : Type} [Inhabited α] (e : α → D) (l : List α) : numbered 0 (l.map e) = (List.range l.length).map fun i => .tup [nD i, e l[i]!] := by
  rw [numbered_eq, zipIdx_eq, List.map_map]; rfl
theorem zip_map {α β : Type} (e : α → D) (e' : β → D) : ∀ (l : List α) (r : List β), zipD (l.map e) (r.map e') = (l.zip r).map fun p => .tup [e p.1, e' p.2]
  | [], _ => by rw [List.map_nil, zipD]; rfl; intros; simp_all
  | _ :: _, [] => by rw [List.map_nil, zipD]; rfl; intros; simp_all
  | a :: l, b :: r => by rw [List.map_cons, List.map_cons, zipD, zip_map e e' l r, List.zip_cons_cons, List.map_cons]
/-! ### targets -/
theorem bT_nm (i : Nat) (d : D) (ρ : Env) : bindT (.nm i) d ρ = some (ρ.set i (some d)) := by rw [bindT]
theorem bT_tp (ts : Ts) (l : List D) (ρ : Env) : bindT (.tp ts) (.tup l) ρ = bindTs ts l ρ := by rw [bindT]
theorem bTs_nil (ρ : Env) : bindTs .nil [] ρ = some ρ := by rw [bindTs]
theorem bTs_nm (i : Nat) (r : Ts) (d : D) (l : List D) (ρ : Env) : bindTs (.cons (.nm i) r) (d :: l) ρ = bindTs r l (ρ.set i (some d)) := by rw [bindTs, bT_nm]
theorem wipe_nil (ρ : Env) : wipeD ρ [] = ρ := by rw [wipeD]
theorem wipe_cons (ρ : Env) (v : Nat) (vs : List Nat) : wipeD ρ (v :: vs) = (wipeD ρ vs).set v none := by rw [wipeD]
theorem setAll_nil (ρ : Env) : setAll [] [] ρ = some ρ := by rw [setAll]
theorem setAll_cons (i : Nat) (r : List Nat) (d : D) (l : List D) (ρ : Env) : setAll (i :: r) (d :: l) ρ = setAll r l (ρ.set i (some d)) := by rw [setAll]
end
end PI
namespace PI
open PySem L2 PySem.W PyProof.Rows
/-! ### sorting -/
theorem sortD_map {α : Type} (e : α → D) (l : List α) : sortD (l.map e) = (l.mergeSort fun a b => dataLe false py (e a) (e b)).map e := by
  unfold sortD
  rw [List.map_mergeSort]
  intro a _ b _; rfl
theorem dle_int (a b : Int) : dataLe false py (.int a) (.int b) = decide (a ≤ b) := by
  unfold dataLe sortLe
  show (!PyProof.Rows.lexLt itemOrd (keyToks (py (.int b))) (keyToks (py (.int a)))) = _
  rw [py, py, keyToks, keyToks]
  show (!(decide (b < a) || (!decide (a < b) && false))) = _
  rw [Bool.and_false, Bool.or_false, ← decide_not]
  exact decide_eq_decide.mpr (by omega)
theorem dle_nD (a b : Nat) : dataLe false py (nD a) (nD b) = decide (a ≤ b) := by
  rw [nD_ap, nD_ap, dle_int]; exact decide_eq_decide.mpr (by omega)
theorem sort_nD (l : List Nat) : sortD (l.map nD) = (l.mergeSort fun a b => decide (a ≤ b)).map nD := by
  rw [sortD_map]
  congr 1
  congr 1
  funext a b; exact dle_nD a b
theorem sortOk_map {α : Type} {e : α → D} {l : List α} (h1 : D.fitL (l.map e) 49 = true) (h2 : ∀ a ∈ l, ∀ b ∈ l, alike (py (e a)) (py (e b)) = true) (h3 : (∀ a ∈ l, (e a).sortable = true) ∨ ∀ a ∈ l, (e a).fullT = true) : sortOk (l.map e) = true := by
  unfold sortOk
  rw [plainL_eq, h1, Bool.true_and, Bool.and_eq_true]
  refine ⟨?_, ?_⟩
  · rw [List.all_eq_true]
    intro x hx
    rw [List.all_eq_true]
    intro y hy
    obtain ⟨a, ha, rfl⟩ := List.mem_map.mp hx
    obtain ⟨b, hb, rfl⟩ := List.mem_map.mp hy
    exact h2 a ha b hb
  · rw [Bool.or_eq_true, List.all_map, List.all_map, List.all_eq_true, List.all_eq_true]
    exact h3
theorem alike_int (a b : Int) : alike (py (.int a)) (py (.int b)) = true := by rw [py, py, alike]
theorem sortOk_nD (l : List Nat) : sortOk (l.map nD) = true := sortOk_map (fitL_nD _ _) (fun a _ b _ => alike_int _ _) (.inl fun a _ => rfl)
theorem sortOk_int (l : List Int) : sortOk (l.map .int) = true := sortOk_map (fitL_int _ _) (fun a _ b _ => alike_int _ _) (.inl fun a _ => rfl)
theorem fam_nD (a : Nat) (l : List Nat) : famOk (nD a) (l.map nD) = true := famOk_nD a l
end PI
namespace PI
open PySem L2 PySem.W PyProof.Rows
section
variable {st : Store} {m : Bool}
/-! ### the list made last -/
theorem at_end (st : Store) (o : O) : (st ++ [o])[st.length]? = some o := by
  rw [List.getElem?_append_right (Nat.le_refl _), Nat.sub_self]; rfl
theorem set_end (st : Store) (o o' : O) : (st ++ [o]).set st.length o' = st ++ [o'] := by
  rw [List.set_append_right _ _ (Nat.le_refl _), Nat.sub_self]; rfl
theorem asL_end (l : List D) : asL (.ref st.length) (st ++ [.lst l]) = .ok l (st ++ [.lst l]) := by
  unfold asL; dsimp only; rw [at_end]
theorem app_end {l : List D} (d : D) (h : l.length < 16777216) : meth .append (.ref st.length) [d] (st ++ [.lst l]) = .ok .non (st ++ [.lst (l ++ [d])]) := by
  unfold meth; dsimp only; rw [at_end]; dsimp only; rw [if_pos (show l.length < sizeLine from h), set_end]
theorem src_end (l : List D) : srcOf (.ref st.length) (st ++ [.lst l]) = .ok ⟨[(st.length, .lst l)], l, true⟩ (st ++ [.lst l]) := by
  unfold srcOf; dsimp only; rw [at_end]
theorem chk_end (l : List D) (its : List D) (b : Bool) : (⟨[(st.length, .lst l)], its, b⟩ : Src).chk (st ++ [.lst l]) = true := by
  unfold Src.chk; simp [at_end]
theorem back_end {l : List D} (h : D.nrL l = true) : back false st (st ++ [.lst l]) (.ref st.length) = .ok (.lst l) st := by
  rw [back_rf (Kept.app st _) (Nat.le_refl _) (at_end st _) h, List.take_left']; rfl
theorem back_endT {l : List D} (h : D.nrL l = true) : back true st (st ++ [.lst l]) (.ref st.length) = .ok (.ref st.length) (st ++ [.lst l]) := by
  rw [back_rt (Kept.app st _) (Nat.le_refl _) (at_end st _) h, List.take_left']; rfl
/-! ### a dict asked -/
theorem ix_dct {κ : Type} [DecidableEq κ] {e : κ → D} (h : ∀ a b, D.eqv (e a) (e b) = decide (a = b)) (hF : ∀ (a : κ) (l : List κ), famOk (e a) (l.map e) = true) {l : List κ} {vs : List D} {a : κ} {v : D} (ha : a ∈ l) (hv : vs[l.findIdx fun x => decide (x = a)]? = some v) : getIx (.dct (l.map e) vs) (e a) st = .ok v st := by
  unfold getIx; dsimp only
  rw [if_pos (hF a l), keyA h]
  have z : (l.findIdx? fun x => decide (x = a)) = some (l.findIdx fun x => decide (x = a)) := by
    rw [List.findIdx?_eq_some_iff_findIdx_eq]
    refine ⟨?_, rfl⟩
    exact List.findIdx_lt_length_of_exists ⟨a, ha, by simp⟩
  rw [z]; dsimp only; rw [hv]
/-! ### keys of a flag, a number, a flag -/
def kD (a : Bool × Int × Bool) : D := .tup [.bl a.1, .int a.2.1, .bl a.2.2]
theorem kD_ap (a : Bool × Int × Bool) : kD a = .tup [.bl a.1, .int a.2.1, .bl a.2.2] := rfl
theorem eqv_kD (a b : Bool × Int × Bool) : D.eqv (kD a) (kD b) = decide (a = b) := by
  obtain ⟨a, i, c⟩ := a
  obtain ⟨b, j, d⟩ := b
  simp only [kD_ap, eqv_tt, eqvL_cc, eqv_bl, eqv_int, eqvL_nn, Bool.and_true, Prod.mk.injEq, Bool.decide_and]
theorem fam_kD (a : Bool × Int × Bool) (l : List (Bool × Int × Bool)) : famOk (kD a) (l.map kD) = true := by
  have z : ∀ b : Bool × Int × Bool, (kD b).isTK = true := by
    intro b; unfold kD D.isTK; simp [D.keyL, D.keyN]
  unfold famOk
  have : (l.map kD).all D.isTK = true := by rw [List.all_map, List.all_eq_true]; intro x _; exact z x
  rw [z, this]; simp
def leK (a b : Bool × Int × Bool) : Bool := decide (b2i a.1 < b2i b.1 ∨ (a.1 = b.1 ∧ (a.2.1 < b.2.1 ∨ (a.2.1 = b.2.1 ∧ b2i a.2.2 ≤ b2i b.2.2))))
theorem dle_kD (a b : Bool × Int × Bool) : dataLe false py (kD a) (kD b) = leK a b := by
  obtain ⟨a, i, c⟩ := a
  obtain ⟨b, j, d⟩ := b
  unfold dataLe sortLe leK
  show (!PyProof.Rows.lexLt itemOrd (keyToks (py (kD (b, j, d)))) (keyToks (py (kD (a, i, c))))) = _
  simp only [kD_ap, py, pys, keyToks, keyToksAll, List.cons_append, List.nil_append]
  simp only [PyProof.Rows.lexLt, itemLt]
  cases a <;> cases b <;> cases c <;> cases d <;> simp [b2i] <;> grind
theorem sort_kD (l : List (Bool × Int × Bool)) : sortD (l.map kD) = (l.mergeSort leK).map kD := by
  rw [sortD_map]
  congr 1
  congr 1
  funext a b; exact dle_kD a b
theorem sortOk_kD (l : List (Bool × Int × Bool)) : sortOk (l.map kD) = true := by
  refine sortOk_map (fitL_map fun a _ => ?_) (fun a _ b _ => ?_) (.inr fun a _ => rfl)
  · simp [kD_ap, fit_tup, fitL_cons, fitL_nil, fit_bl, fit_int]
  · simp [kD_ap, py, pys, alike, alikeAll]
end
end PI
namespace PI
theorem b_sortDk {st : Store} {m : Bool} (l : List (Bool × Int × Bool)) (v : List D) : bi m .sorted [.dct (l.map kD) v] st = newL m ((l.mergeSort leK).map kD) st := by
  rw [b_sortD (sortOk_kD l), sort_kD]
theorem get_range {α : Type} [Inhabited α] (l : List α) : ((List.range l.length).map fun i => l[i]!) = l := by
  apply List.ext_getElem
  · simp
  · intro i h1 h2
    rw [List.getElem_map, List.getElem_range, getElem!_pos l i h2]
end PI
namespace PI
/-- a row's statement by its place -/
def Ss.nth : Ss → Nat → S
  | .nil, _ => .pass
  | .cons s _, 0 => s
  | .cons _ r, n + 1 => r.nth n
theorem nth_0 (s : S) (r : Ss) : Ss.nth (.cons s r) 0 = s := by rw [Ss.nth]
theorem nth_s (s : S) (r : Ss) (n : Nat) : Ss.nth (.cons s r) (n + 1) = r.nth n := by rw [Ss.nth]
end PI
namespace PI
open PySem L2
section
variable {st : Store} {m : Bool}
theorem asL_ref {n : Nat} {l : List D} (e : st[n]? = some (.lst l)) : asL (.ref n) st = .ok l st := by
  unfold asL; dsimp only; rw [e]
theorem len_ref {n : Nat} {l : List D} (e : st[n]? = some (.lst l)) : bi m .len [.ref n] st = .ok (.int (l.length : Nat)) st := by
  unfold bi; dsimp only; rw [e]
theorem app_ref {n : Nat} {l : List D} {d : D} (e : st[n]? = some (.lst l)) (h : l.length < 16777216) : meth .append (.ref n) [d] st = .ok .non (st.set n (.lst (l ++ [d]))) := by
  unfold meth; dsimp only; rw [e]; dsimp only; rw [if_pos (show l.length < sizeLine from h)]
theorem place_nat {n v : Nat} (h : v < n) : place ((v : Nat) : Int) n = some v := by
  unfold place L2.ixN
  rw [if_pos (by omega), if_pos (by omega), Int.toNat_natCast]
theorem pop_ref {n v : Nat} {l : List D} (e : st[n]? = some (.lst l)) (h : v < l.length) : meth .pop (.ref n) [.int ((v : Nat) : Int)] st = .ok l[v]! (st.set n (.lst (l.eraseIdx v))) := by
  unfold meth; dsimp only; rw [e]; dsimp only; rw [place_nat h]; dsimp only; rw [List.getElem?_eq_getElem h]; dsimp only; rw [getElem!_pos l v h]
theorem newK_f (a b : List D) : newK false a b st = .ok (.dct a b) st := rfl
theorem newK_t (a b : List D) : newK true a b st = .ok (.ref st.length) (st ++ [.dct a b]) := rfl
theorem whl_0 {t : Env → M Bool} {body : Env → Store → SRes} {n : Nat} {ρ : Env} (h : t ρ st = .ok false st) : whlL t body (n + 1) ρ st = .ok .nx ρ st := by
  rw [whlL, ofM_eq, h, ofR_ok, if_neg (by decide)]
theorem whl_1 {t : Env → M Bool} {body : Env → Store → SRes} {n : Nat} {ρ ρ' : Env} {st' : Store} (h : t ρ st = .ok true st) (h2 : body ρ st = .ok .nx ρ' st') : whlL t body (n + 1) ρ st = whlL t body n ρ' st' := by
  rw [whlL, ofM_eq, h, ofR_ok, if_pos rfl, h2, next_ok]
theorem sl_tup (l : List D) (a b : Option Int) : slice m (.tup l) a b st = .ok (.tup (cutD l a b)) st := rfl
theorem sl_lst (l : List D) (a b : Option Int) : slice m (.lst l) a b st = newL m (cutD l a b) st := by
  unfold slice; dsimp only; rw [bind_st]; rfl
theorem cut_from (l : List D) (a : Nat) : cutD l (some (a : Int)) none = l.drop a := by
  unfold cutD
  rw [HT.sIx_nat, HT.sIx_none]
  by_cases h : a ≤ l.length
  · rw [Nat.min_eq_left h, List.take_of_length_le (by rw [List.length_drop]; omega)]
  · rw [Nat.min_eq_right (by omega), List.drop_of_length_le (by omega), List.drop_of_length_le (by omega)]; simp
theorem cut_to (l : List D) (a : Nat) : cutD l none (some (a : Int)) = l.take a := by
  unfold cutD
  rw [HT.sIx_nat, HT.sIx_none, List.drop_zero, Nat.sub_zero]
  by_cases h : a ≤ l.length
  · rw [Nat.min_eq_left h]
  · rw [Nat.min_eq_right (by omega), List.take_of_length_le (by omega), List.take_of_length_le (by omega)]
end
end PI
set_option Elab.async false
set_option linter.all false
set_option maxRecDepth 100000
set_option maxHeartbeats 4000000
/-! Walking, more: sorted(set(..)), list(range(..)), rows of numbers. -/
namespace PI
open PySem L2 PySem.W PyProof.Rows
/-- each once, by data that == tells apart -/
theorem dedup_map {α : Type} [DecidableEq α] {e : α → D} (h : ∀ a b, D.eqv (e a) (e b) = decide (a = b)) : ∀ (l acc : List α), (l.map e).foldl (fun acc x => if memD x acc = true then acc else acc ++ [x]) (acc.map e) = (l.foldl addK acc).map e
  | [], acc => rfl
  | a :: l, acc => by
    rw [List.map_cons, List.foldl_cons, List.foldl_cons, memD_map h, ← dedup_map h l]
    congr 1
    unfold addK
    by_cases q : a ∈ acc
    · rw [if_pos (decide_eq_true q), if_pos q]
    · rw [if_neg (by rw [decide_eq_false q]; exact Bool.false_ne_true), if_neg q, List.map_append]; rfl
theorem dedup_once {α : Type} [DecidableEq α] {e : α → D} (h : ∀ a b, D.eqv (e a) (e b) = decide (a = b)) (l : List α) : dedup (l.map e) = (once l).map e := dedup_map h l []
section
variable {F : Cf} {ρ : Env} {st : Store} {m : Bool}
/-- sorted, natural numbers -/
def sortN (l : List Nat) : List Nat := l.mergeSort fun a b => decide (a ≤ b)
theorem eqv_nD' (a b : Nat) : D.eqv (nD a) (nD b) = decide (a = b) := by
  rw [nD_ap, nD_ap, eqv_int]; exact decide_eq_decide.mpr (by omega)
theorem setI_nD {l : List Nat} (h : l.length < 4000) (h2 : (once l).length < 60) : setI (l.map nD) = true := by
  unfold setI
  rw [List.length_map, decide_eq_true h, dedup_once eqv_nD', List.length_map, decide_eq_true h2, Bool.true_and, Bool.true_and]
  have e : l.map nD = (l.map fun n => ((n : Nat) : Int)).map D.int := by rw [List.map_map]; rfl
  rw [e, toInts_map]; rfl
theorem sortset_go2 {d : D} {l : List Nat} (h : l.length < 4000) (h2 : (once l).length < 60) (st : Store) : (if setI (l.map nD) = true ∨ (setT (l.map nD) = true ∧ d.noTup = true) then newL m (sortD (dedup (l.map nD))) else mbad) st = newL m ((sortN (once l)).map nD) st := by
  rw [if_pos (Or.inl (setI_nD h h2)), dedup_once eqv_nD', sort_nD]; rfl
theorem b_sortsetT {l : List Nat} (h : l.length < 4000) (h2 : (once l).length < 60) : bi m .sortset [.tup (l.map nD)] st = newL m ((sortN (once l)).map nD) st := by
  show ((asS (.tup (l.map nD)) >>= fun l' => _) : M D) st = _
  rw [bind_st]
  show (Res.ok (l.map nD) st).bnd _ = _
  rw [bnd_ok]
  exact sortset_go2 h h2 st
theorem b_sortsetL {l : List Nat} (h : l.length < 4000) (h2 : (once l).length < 60) : bi m .sortset [.lst (l.map nD)] st = newL m ((sortN (once l)).map nD) st := by
  show ((asS (.lst (l.map nD)) >>= fun l' => _) : M D) st = _
  rw [bind_st]
  show (Res.ok (l.map nD) st).bnd _ = _
  rw [bnd_ok]
  exact sortset_go2 h h2 st
theorem b_sortsetR {l : List Nat} {n : Nat} (e : st[n]? = some (.lst (l.map nD))) (h : l.length < 4000) (h2 : (once l).length < 60) : bi m .sortset [.ref n] st = newL m ((sortN (once l)).map nD) st := by
  show ((asS (.ref n) >>= fun l' => _) : M D) st = _
  rw [bind_st]
  have z : asS (.ref n) st = .ok (l.map nD) st := by unfold asS; dsimp only; rw [e]
  rw [z, bnd_ok]
  exact sortset_go2 h h2 st
/-- sorted of a dict's keys -/
theorem b_sortDn (l : List Nat) (v : List D) : bi m .sorted [.dct (l.map nD) v] st = newL m ((sortN l).map nD) st := by
  rw [b_sortD (sortOk_nD l), sort_nD]; rfl
theorem mem_sortN {x : Nat} {l : List Nat} : x ∈ sortN l ↔ x ∈ l := List.mem_mergeSort
theorem len_sortN (l : List Nat) : (sortN l).length = l.length := List.length_mergeSort l
theorem nodup_sortN {l : List Nat} (h : l.Nodup) : (sortN l).Nodup := (List.mergeSort_perm _ _).nodup_iff.mpr h
theorem sorted_sortN (l : List Nat) : (sortN l).Pairwise (· ≤ ·) := (List.pairwise_mergeSort (le := fun a b : Nat => decide (a ≤ b)) (fun a b c x y => by simp at *; omega) (fun a b => by simp; omega) l).imp fun {a b} h => of_decide_eq_true h
theorem lt_sortN {l : List Nat} (h : l.Nodup) : (sortN l).Pairwise (· < ·) := by
  have h1 := sorted_sortN l
  have h2 := nodup_sortN h
  unfold List.Nodup at h2
  exact (h1.and h2).imp fun {a b} z => by omega
/-- strictly rising rows with the same members -/
theorem rise_eq : ∀ {l r : List Nat}, l.Pairwise (· < ·) → r.Pairwise (· < ·) → (∀ x, x ∈ l ↔ x ∈ r) → l = r
  | [], [], _, _, _ => rfl
  | [], b :: r, _, _, h => by have := (h b).mpr List.mem_cons_self; cases this
  | a :: l, [], _, _, h => by have := (h a).mp List.mem_cons_self; cases this
  | a :: l, b :: r, h1, h2, h => by
    rw [List.pairwise_cons] at h1 h2
    have hab : a = b := by
      rcases List.mem_cons.mp ((h a).mp List.mem_cons_self) with h3 | h3
      · exact h3
      · rcases List.mem_cons.mp ((h b).mpr List.mem_cons_self) with h4 | h4
        · exact h4.symm
        · have := h1.1 b h4; have := h2.1 a h3; omega
    subst hab
    congr 1
    refine rise_eq h1.2 h2.2 fun x => ?_
    constructor
    · intro hx
      rcases List.mem_cons.mp ((h x).mp (List.mem_cons_of_mem _ hx)) with h3 | h3
      · have := h1.1 x hx; omega
      · exact h3
    · intro hx
      rcases List.mem_cons.mp ((h x).mpr (List.mem_cons_of_mem _ hx)) with h3 | h3
      · have := h2.1 x hx; omega
      · exact h3
theorem sortU_eq {l r : List Nat} (h : ∀ x, x ∈ l ↔ x ∈ r) : sortN (once l) = sortN (once r) := rise_eq (lt_sortN (nodup_once l)) (lt_sortN (nodup_once r)) fun x => by rw [mem_sortN, mem_sortN, mem_once, mem_once, h]
theorem sortU_range {n : Nat} {p : Nat → Bool} {l : List Nat} (h : ∀ x, x ∈ l ↔ (x < n ∧ p x = true)) : sortN (once l) = (List.range n).filter p := rise_eq (lt_sortN (nodup_once l)) (List.pairwise_lt_range.filter _) fun x => by rw [mem_sortN, mem_once, h, List.mem_filter, List.mem_range]
/-! ranges made rows -/
theorem rngE1 (n : Nat) : rangeE [.int ((n : Nat) : Int)] st = (if n < 4611686018427387904 then (.ok ((List.range n).map nD) st : Res (List D)) else .bad) := by
  unfold rangeE; dsimp only
  by_cases h : n < 4611686018427387904
  · rw [if_pos (by omega), if_pos h, Int.toNat_natCast]
    show Res.ok _ st = _
    congr 1
    unfold intsD
    refine List.map_congr_left fun i _ => ?_
    rw [nD_ap, Int.zero_add]
  · rw [if_neg (by omega), if_neg h]; rfl
theorem rngE2 (a n : Nat) : rangeE [.int ((a : Nat) : Int), .int ((n : Nat) : Int)] st = (if a < 4611686018427387904 ∧ n < 4611686018427387904 then (.ok ((List.range' a (n - a)).map nD) st : Res (List D)) else .bad) := by
  unfold rangeE; dsimp only
  by_cases h : a < 4611686018427387904 ∧ n < 4611686018427387904
  · rw [if_pos (by omega), if_pos h]
    show Res.ok _ st = _
    congr 1
    unfold intsD
    have e : ((n : Nat) - (a : Nat) : Int).toNat = n - a := by omega
    rw [e, List.range'_eq_map_range, List.map_map]
    refine List.map_congr_left fun i _ => ?_
    show D.int _ = nD (a + i)
    rw [nD_ap]; congr 1
  · rw [if_neg (by omega), if_neg h]; rfl
/-! ### two loops in one comprehension -/
def c2F (F : Cf) (elt : E) (vs vs1 : List Nat) (tg : T) (c : Es) (tg1 : T) (it1 : It) (c1 : Es) (ρ : Env) (d : D) (acc : List D) : M (List D) := match bindT tg d (wipeD ρ vs) with
      | some ρ' => do
        let b ← evTs F c ρ'
        if b = true then do
          let src1 ← evIt F it1 ρ'
          compL (compF F elt vs1 tg1 c1 ρ') src1 src1.items acc
        else M.pure acc
      | none => mbad
theorem w_comp2 (m : Bool) (elt : E) (vs vs1 : List Nat) (tg : T) (it : It) (c : Es) (tg1 : T) (it1 : It) (c1 : Es) : evE F (.comp2 m elt vs vs1 tg it c tg1 it1 c1) ρ st = (evIt F it ρ st).bnd fun src st => (compL2 (c2F F elt vs vs1 tg c tg1 it1 c1 ρ) src src.items [] st).bnd fun l st => newL m l st := by
  rw [evE]; rfl
theorem c2_pure {α β γ : Type} {elt : E} {vs vs1 : List Nat} {tg : T} {c : Es} {tg1 : T} {it1 : It} {c1 : Es} {src : Src} (hc : src.chk st = true) {e : α → D} {l1 : α → List β} {e1 : β → D} {g : α → β → Option γ} {e' : γ → D} : ∀ (l : List α) (acc : List D),
    (∀ a ∈ l, ∃ ρ' src1, bindT tg (e a) (wipeD ρ vs) = some ρ' ∧ evTs F c ρ' st = .ok true st ∧ evIt F it1 ρ' st = .ok src1 st ∧ src1.chk st = true ∧ src1.items = (l1 a).map e1 ∧ ∀ b ∈ l1 a, compF F elt vs1 tg1 c1 ρ' (e1 b) st = .ok ((g a b).map e') st) →
    acc.length + (l.map fun a => (l1 a).length).sum ≤ 16777216 →
    compL2 (c2F F elt vs vs1 tg c tg1 it1 c1 ρ) src (l.map e) acc st = .ok (acc ++ (l.flatMap fun a => (l1 a).filterMap (g a)).map e') st
  | [], acc, _, _ => by
    rw [List.map_nil, compL2]
    refine (if_pos hc).trans ?_
    simp
  | a :: r, acc, h, hl => by
    rw [List.map_cons, List.sum_cons] at hl
    obtain ⟨ρ', src1, h1, h2, h3, h4, h5, h6⟩ := h a List.mem_cons_self
    have z : c2F F elt vs vs1 tg c tg1 it1 c1 ρ (e a) acc st = .ok (acc ++ ((l1 a).filterMap (g a)).map e') st := by
      unfold c2F
      rw [h1]
      show (evTs F c ρ' >>= _) st = _
      rw [bind_st, h2, bnd_ok]
      show (evIt F it1 ρ' >>= _) st = _
      rw [bind_st, h3, bnd_ok, h5]
      have y := compL_pure (f := compF F elt vs1 tg1 c1 ρ') (src := src1) h4 (l1 a) e1 (fun b => (g a b).map e') acc h6 (by show _ ≤ 16777216; omega)
      rw [y, List.map_filterMap]
    rw [List.map_cons, compL2]
    refine (if_pos hc).trans ?_
    rw [z]
    dsimp only
    have hf := List.length_filterMap_le (g a) (l1 a)
    rw [c2_pure hc r _ (fun b hb => h b (List.mem_cons_of_mem _ hb)) (by rw [List.length_append, List.length_map]; omega), List.flatMap_cons, List.map_append, List.append_assoc]
theorem comp2_g {α β γ : Type} {elt : E} {vs vs1 : List Nat} {tg : T} {it : It} {c : Es} {tg1 : T} {it1 : It} {c1 : Es} {src : Src} {l : List α} (e : α → D) (l1 : α → List β) (e1 : β → D) (g : α → β → Option γ) (e' : γ → D)
    (hi : evIt F it ρ st = .ok src st) (hm : src.items = l.map e) (hc : src.chk st = true) (hl : (l.map fun a => (l1 a).length).sum ≤ 16777216)
    (hb : ∀ a ∈ l, ∃ ρ' src1, bindT tg (e a) (wipeD ρ vs) = some ρ' ∧ evTs F c ρ' st = .ok true st ∧ evIt F it1 ρ' st = .ok src1 st ∧ src1.chk st = true ∧ src1.items = (l1 a).map e1 ∧ ∀ b ∈ l1 a, compF F elt vs1 tg1 c1 ρ' (e1 b) st = .ok ((g a b).map e') st) :
    evE F (.comp2 false elt vs vs1 tg it c tg1 it1 c1) ρ st = .ok (.lst ((l.flatMap fun a => (l1 a).filterMap (g a)).map e')) st := by
  rw [w_comp2, hi, bnd_ok, hm, c2_pure hc l [] hb (by rw [List.length_nil, Nat.zero_add]; exact hl), bnd_ok, List.nil_append, newL_f]
  rw [List.length_map, List.length_flatMap]
  refine Nat.le_trans ?_ hl
  clear hl hb hm
  induction l with
  | nil => exact Nat.le_refl _
  | cons a r ih =>
    rw [List.map_cons, List.map_cons, List.sum_cons, List.sum_cons]
    have := List.length_filterMap_le (g a) (l1 a)
    omega
/-! ### bits -/
theorem or_and_xor : ∀ x < 64, ∀ y < 64, (x ||| y) = (x &&& y) + (x ^^^ y) := by decide +kernel
theorem bit_nn (a : Nat) : Builtin.bitNot (a : Int) = -(a : Int) - 1 := rfl
theorem op_xorN {a b : Nat} (ha : a < 64) (hb : b < 64) : op2 m .xor (.int (a : Int)) (.int (b : Int)) st = .ok (.int ((a ^^^ b : Nat) : Int)) st := by
  rw [op_xor]
  congr 2
  unfold Builtin.bitXor
  rw [bitAnd_nat]
  have e : Builtin.bitOr (a : Int) (b : Int) = ((a ||| b : Nat) : Int) := by
    unfold Builtin.bitOr Builtin.bitAnd
    rw [decide_eq_false (by unfold Builtin.bitNot; omega), decide_eq_false (by unfold Builtin.bitNot; omega)]
    dsimp only
    have z : ∀ n : Nat, (Builtin.bitNot (Builtin.bitNot (n : Int))) = n := fun n => by unfold Builtin.bitNot; omega
    rw [z, z, z, Int.toNat_natCast, Int.toNat_natCast]
  rw [e, or_and_xor a ha b hb]
  omega
theorem bit_andNot (a b : Nat) : Builtin.bitAnd (a : Int) (Builtin.bitNot (b : Int)) = ((a - (a &&& b) : Nat) : Int) := by
  unfold Builtin.bitAnd
  rw [decide_eq_true (show (0 : Int) ≤ (a : Int) by omega), decide_eq_false (by unfold Builtin.bitNot; omega)]
  dsimp only
  have z : Builtin.bitNot (Builtin.bitNot (b : Int)) = b := by unfold Builtin.bitNot; omega
  rw [z, Int.toNat_natCast, Int.toNat_natCast, Int.ofNat_sub Nat.and_le_left]
/-! a dict that is a set of numbers -/
def setO (l : List Nat) : O := .dct (l.map nD) (List.replicate l.length (.bl true))
theorem setix_set {n a : Nat} {l : List Nat} (e : st[n]? = some (setO l)) (hl : l.length < 16777216) : setIx (.ref n) (.int ((a : Nat) : Int)) (.bl true) st = .ok () (st.set n (setO (addK l a))) := by
  unfold setIx; dsimp only; rw [e]; unfold setO; dsimp only
  rw [← nD_ap, if_pos ⟨fam_nD a l, by rw [List.length_map]; exact hl⟩, putK_true eqv_nD']
theorem b_sortR {n : Nat} {l : List Nat} (e : st[n]? = some (setO l)) : bi m .sorted [.ref n] st = newL m ((sortN l).map nD) st := by
  have z : asW (.ref n) st = .ok (l.map nD) st := by unfold asW; dsimp only; rw [e]; rfl
  show ((asW (.ref n) >>= fun l' => _) : M D) st = _
  rw [bind_st, z, bnd_ok]
  show (if sortOk (l.map nD) = true then newL m (sortD (l.map nD)) else mbad) st = _
  rw [if_pos (sortOk_nD l), sort_nD]; rfl
theorem src_set {n : Nat} {l : List Nat} (e : st[n]? = some (setO l)) : st[n]? = some (setO l) := e
/-- few, being below n -/
theorem once_below {l : List Nat} {n : Nat} (h : ∀ x ∈ l, x < n) : (once l).length ≤ n := by
  have := List.Nodup.length_le_of_subset (nodup_once l) (fun x hx => List.mem_range.mpr (h x (mem_once.mp hx)))
  rwa [List.length_range] at this
theorem addK_below {l : List Nat} {acc : List Nat} {n : Nat} (ha : acc.Nodup) (h : ∀ x ∈ acc, x < n) (h2 : ∀ x ∈ l, x < n) : (l.foldl addK acc).length ≤ n := by
  have := List.Nodup.length_le_of_subset (once_nd (l := l) ha) (fun x hx => List.mem_range.mpr ((once_mem.mp hx).elim (h x) (h2 x)))
  rwa [List.length_range] at this
end
end PI
set_option Elab.async false
set_option linter.all false
set_option maxRecDepth 100000
set_option maxHeartbeats 8000000
/-! PI, part ADS: sorted(set(..)), list(range(..)), tuple(range(..)). -/
namespace PI
open PySem PySem.Spec PyProof.Rows L2
/-! ### a set of a list of numbers -/
section
variable {P : Program} {w : World} {A : Around} {E : Value → Shared → Prop} {s : Shared}
abbrev emptySet (w : World) : Obj := { cls := .type "set", dict := none, data := .set #[] 0 (.fresh 0 0 (!w.params.followText "set-order")) }
set_option maxHeartbeats 3200000 in
theorem call_set_nums {l : Addr} {items : Array Value} (ns : List Int) {Q : Value → Shared → Prop} (h1h : A.handled = none) (hl : s.heap.IsList l items) (hit : IntsAre items.toList ns) (hb : ns.length + 1 < scanBound)
    (fin : ∀ (h' : Heap) (tk c : Nat), SetR w h' s.heap.objs.size (fun j => decide (j ∈ ns)) c → c ≤ ns.length → (∀ b o, s.heap.get? b = some o → h'.get? b = some o) → Q (.ref s.heap.objs.size) { s with heap := h', toks := tk }) :
    wpAny (model P w) A (call (.type "set") [.ref l]) Q E s := by
  have hisz : items.size = ns.length := by
    have q := IntsAre.length hit; rw [Array.length_toList] at q; exact q
  obtain ⟨c0, tl, hmro⟩ := F.called_set.mro
  have hmade := F.called_set.made; have hsub := F.called_set.sub
  refine wpAny_call (codeAny_of_tree ?_)
  show wpAny _ _ (callAny (.type "set") _) _ _ _
  refine wpAny_pure ⟨Code.quiet_builtin _ (by decide +kernel), codeAny_builtin F.entry_type_call ?_⟩
  rw [Around.under_plain (weight_type_call_type "set" [.ref l] []) rfl]
  have q1 := F.called_set.notType; have q2 := F.called_set.canCreate; have q3 := F.typeCall_set_1 (.ref l)
  repeat (any_goals (first | assumption | wp_step))
  refine codeAny_mono (code_set_led1 (.ref l) (E := E) (Q₁ := fun ob t => ob = .ref s.heap.objs.size ∧ t = { s with heap := s.heap.push (emptySet w) }) ⟨rfl, rfl⟩) fun r t hr => ?_
  match r, hr with
  | .error e, hr => exact hr
  | .ok (.ret ob), hr =>
    obtain ⟨rfl, rfl⟩ := hr
    have hS : (s.heap.push (emptySet w)).get? s.heap.objs.size = some (emptySet w) := Heap.get?_push_size _ rfl
    have hT : Shared.TypeIs { s with heap := s.heap.push (emptySet w) } (.ref s.heap.objs.size) "set" := ⟨_, hS, rfl⟩
    have i1 := F.called_set.init.lookup; have i2 := F.called_set.init.bind (.ref s.heap.objs.size)
    repeat (any_goals (first | assumption | wp_step))
    refine codeAny_mono (codeAny_call_builtin (R := wants (fun r t2 => r = .none ∧ ∃ h' tk c, t2 = { s with heap := h', toks := tk } ∧ SetR w h' s.heap.objs.size (fun j => decide (j ∈ ns)) c ∧ c ≤ ns.length ∧ (∀ b o, s.heap.get? b = some o → h'.get? b = some o)) E) F.called_set.init.plain F.entry_set_init (check_set_init_1 hT ?_)) fun r2 t2 hr2 => ?_
    · obtain ⟨ol, hol, hcl, nl, hdl⟩ := hl
      obtain ⟨ocls, odict, odata, oslots⟩ := ol
      simp only at hcl hdl
      subst hcl hdl
      have hol2 : (s.heap.push (emptySet w)).get? l = some { cls := .type "list", dict := odict, data := .seq items nl, slots := oslots } := Heap.get?_push_of_some _ hol
      have g1 := F.sub_list_set; have g2 := F.sub_list_frozenset
      have g3 : (Value.type "list" == Value.type "dict") = false := by decide
      have hl1 : (s.heap.push (emptySet w)).IsList l items := ⟨_, hol2, rfl, nl, rfl⟩
      unfold Builtin.«set.__init__» noKeywords Builtin.Frozenset.updateFrom
      generalize hPI : pyIter = PI
      wp_walk
      subst hPI
      refine wpAny_pyIter_list hl1 (wpAny_bind (wpAny_runValue ?_))
      have hlS : l < s.heap.objs.size := Heap.lt_size hol
      have h3 : A.in1.in1.in1.handled = none := by simp [h1h]
      have ne1 : l ≠ (s.heap.push (emptySet w)).objs.size := by rw [Heap.size_push]; exact Nat.ne_of_lt (Nat.lt_succ_of_lt hlS)
      have nSf : s.heap.objs.size ∉ [(s.heap.push (emptySet w)).objs.size, l] := by
        rw [Heap.size_push]; simp only [List.mem_cons, List.mem_singleton, List.not_mem_nil, or_false, not_or]; exact ⟨Nat.ne_of_lt (Nat.lt_succ_self _), Nat.ne_of_gt hlS⟩
      have hval : ∀ (i : Nat) (v : Value), items[i]? = some v → ∃ k t, ns[i]? = some k ∧ v = .int k t := fun i v hv => by
        have hi : i < ns.length := by rw [← hisz]; exact (Array.getElem?_eq_some_iff.mp hv).1
        obtain ⟨t, e⟩ := PyProof.Rows.IntsAre.int_at hit i v (by rw [Array.getElem?_toList]; exact hv)
        exact ⟨ns[i], t, List.getElem?_eq_getElem hi, by rw [e, List.getD_eq_getElem?_getD, List.getElem?_eq_getElem hi] <;> rfl⟩
      refine set_update_ints ((Walks.list h3 _ l ne1 items).toS) s.heap.objs.size nSf ns hisz hb hval (items.size - 0) 0 _ (by omega) (Nat.zero_le _) ⟨⟨_, Heap.get?_push_size _ rfl, rfl, rfl⟩, (hl1.push _)⟩ ?hS0 ?hR
      case hS0 =>
        have hget : ((s.heap.push (emptySet w)).push { cls := .type "list_iterator", data := .fields #[.ref l, .int 0 0] }).get? s.heap.objs.size = some (emptySet w) := Heap.get?_push_of_some _ hS
        exact ⟨0, Nat.le_refl 0, setR_new_at hget⟩
      case hR =>
        intro t3 c3 hm hc3 hS3
        obtain ⟨h', g', d', tk', os'⟩ := t3
        have eg : g' = s.gens := hm.gens
        have ed : d' = s.drawn := hm.drawn
        have eo : os' = s.os := hm.os
        subst eg ed eo
        show wpAny _ _ _ _ _ _
        refine wpAny_pure ?_
        show wpAny _ _ (ret Value.none) _ _ _
        rw [hisz] at hc3
        refine wpAny_pure ⟨rfl, h', tk', c3, rfl, hS3, hc3, fun b o e => ?_⟩
        have hb0 : b < s.heap.objs.size := Heap.lt_size e
        have hb1 : b ≠ s.heap.objs.size := Nat.ne_of_lt hb0
        have hb2 : b ≠ (s.heap.push (emptySet w)).objs.size := by rw [Heap.size_push]; exact Nat.ne_of_lt (Nat.lt_succ_of_lt hb0)
        exact hm.heap b o (by simp only [List.mem_cons, List.mem_singleton, List.not_mem_nil, or_false, not_or]; exact ⟨hb1, hb2⟩) (Heap.get?_push_of_some _ (Heap.get?_push_of_some _ e))
    · match r2, hr2 with
      | .error e, hr2 => exact hr2
      | .ok (.ret rv), hr2 =>
        obtain ⟨rfl, h', tk, c', rfl, hS', hc', hk'⟩ := hr2
        repeat (any_goals (first | assumption | wp_step))
        exact fin _ _ _ hS' hc' hk'
  | .ok .next, hr => exact hr.elim
end
end PI
set_option Elab.async false
set_option linter.all false
set_option maxRecDepth 100000
set_option maxHeartbeats 8000000
/-! PI, part ADT: sorted(set(..)), list(range(..)), tuple(range(..)): the rules. -/
namespace PI
open PySem PySem.Spec PySem.W PyProof.Rows L2
theorem callR_or {X : Cx} {f : Value} {r1 r2 : List V → Hp → VK → Prop} (h1 : CallR X f r1) (h2 : CallR X f r2) : CallR X f (fun xs H Q => r1 xs H Q ∨ r2 xs H Q) := fun pins s σ H xs us Q I r h => h.elim (h1 pins s σ H xs us Q I r) (h2 pins s σ H xs us Q I r)
section
variable {X : Cx}
/-- set(xs), numbers -/
def rSetN (K : PySem.W.Frag) (w : World) : List V → Hp → VK → Prop := fun xs H Q => ∃ (l : Addr) (ns : List Int), xs = [V.ref l] ∧ (SqL K H l (ns.map V.int) ∨ SqT K H l (ns.map V.int)) ∧ ns.length < 4000 ∧
  ∀ a c, H a = none → c ≤ (once ns).length → Q (.ref a) (upd H a (SetO w a (fun j => decide (j ∈ ns)) c))
theorem cr_setN (hc : X.calm = true) : CallR X (.type "set") (rSetN X.K X.w) := by
  intro pins s σ H xs us Q I r h
  obtain ⟨l, ns, rfl, hl, hf, q⟩ := h
  rw [Vals.ref1 r]
  have hn : H s.heap.objs.size = none := I.hok.fresh (Nat.le_refl _)
  have fin : ∀ (h' : Heap) (tk c : Nat), SetR X.w h' s.heap.objs.size (fun j => decide (j ∈ ns)) c → c ≤ ns.length → (∀ b o, s.heap.get? b = some o → h'.get? b = some o) → EP X pins σ Q (.ref s.heap.objs.size) { s with heap := h', toks := tk } := fun h' tk c R _ k =>
    have hcl : c ≤ (once ns).length := by
      obtain ⟨o, es, ep, t, _, _, _, _, hnd, hm, _, _, hsz, _⟩ := R
      have := List.Nodup.length_le_of_subset hnd (fun k hk => mem_once.mpr (of_decide_eq_true ((hm k).mpr hk)))
      rw [List.length_map, Array.length_toList, hsz] at this
      exact this
    ⟨.ref s.heap.objs.size, upd H s.heap.objs.size (SetO X.w s.heap.objs.size (fun j => decide (j ∈ ns)) c), I.laid (t' := tk) k (Nat.le_refl _) (setO_new R), rfl, q _ c hn hcl⟩
  rcases hl with hl | hl
  · obtain ⟨its, rv, pl, hz⟩ := I.list hl
    exact call_set_nums ns (I.ok.hd hc) pl.isList (by simpa using ints_of_vals rv) (by unfold scanBound; omega) fin
  · obtain ⟨its, rv, pl, hz⟩ := I.tuple hl
    exact call_set_tupI ns (I.ok.hd hc) pl (by simpa using ints_of_vals rv) (by unfold scanBound; omega) fin
/-! ### what sorted gives is what stands there -/
theorem sorted_uniq {α : Type} {le : α → α → Bool} (anti : ∀ a b, le a b = true → le b a = true → a = b) : ∀ {l r : List α}, l.Pairwise (fun a b => le a b = true) → r.Pairwise (fun a b => le a b = true) → l.Nodup → r.Nodup → (∀ x, x ∈ l ↔ x ∈ r) → l = r
  | [], [], _, _, _, _, _ => rfl
  | [], b :: r, _, _, _, _, h => by have := (h b).mpr List.mem_cons_self; cases this
  | a :: l, [], _, _, _, _, h => by have := (h a).mp List.mem_cons_self; cases this
  | a :: l, b :: r, h1, h2, n1, n2, h => by
    rw [List.pairwise_cons] at h1 h2
    rw [List.nodup_cons] at n1 n2
    have hab : a = b := by
      rcases List.mem_cons.mp ((h a).mp List.mem_cons_self) with h3 | h3
      · exact h3
      · rcases List.mem_cons.mp ((h b).mpr List.mem_cons_self) with h4 | h4
        · exact h4.symm
        · exact anti a b (h1.1 b h4) (h2.1 a h3)
    subst hab
    congr 1
    refine sorted_uniq anti h1.2 h2.2 n1.2 n2.2 fun x => ?_
    constructor
    · intro hx
      rcases List.mem_cons.mp ((h x).mp (List.mem_cons_of_mem _ hx)) with h3 | h3
      · exact absurd (h3 ▸ hx) n1.1
      · exact h3
    · intro hx
      rcases List.mem_cons.mp ((h x).mpr (List.mem_cons_of_mem _ hx)) with h3 | h3
      · exact absurd (h3 ▸ hx) n2.1
      · exact h3
theorem sort_ints (l : List Int) : sortD (l.map .int) = (l.mergeSort fun a b => decide (a ≤ b)).map .int := by
  rw [sortD_map]
  congr 1
  congr 1
  funext a b; exact dle_int a b
theorem sortset_ints {ns ns' : List Int} (h1 : ns'.Pairwise (· < ·)) (h2 : ∀ k, k ∈ ns' ↔ k ∈ ns) : sortD (dedup (ns.map D.int)) = ns'.map D.int := by
  rw [dedup_once eqv_int, sort_ints]
  congr 1
  refine sorted_uniq (le := fun a b => decide (a ≤ b)) (fun a b x y => by simp at x y; omega) ?_ (h1.imp fun {a b} z => by simp; omega) ((List.mergeSort_perm _ _).nodup_iff.mpr (nodup_once _)) (h1.imp fun {a b} z => by omega) fun x => ?_
  · exact List.pairwise_mergeSort (fun a b c x y => by simp at *; omega) (fun a b => by simp; omega) _
  · rw [List.mem_mergeSort, mem_once, h2]
/-! ### tuples of numbers -/
def kI (ns : List Int) : D := .tup (ns.map D.int)
theorem eqv_kI (a b : List Int) : D.eqv (kI a) (kI b) = decide (a = b) := by unfold kI; rw [eqv_tt]; exact eqvL_map eqv_int a b
/-- lexicographic -/
def lexI : List Int → List Int → Bool
  | [], _ => true
  | _ :: _, [] => false
  | x :: r, y :: t => decide (x < y) || (decide (x = y) && lexI r t)
theorem toks_kI (ns : List Int) : PySem.W.keyToksAll (pys (ns.map D.int)) = ns.flatMap (fun n => [Sum.inl 1, Sum.inl n]) ++ [Sum.inl 0] := by
  induction ns with
  | nil => rfl
  | cons n ns ih =>
    rw [List.map_cons, pys, PySem.W.keyToksAll, py, PySem.W.keyToks, ih]
    rfl
theorem lex_flat : ∀ (a b : List Int), PyProof.Rows.lexLt itemOrd (a.flatMap (fun n => [Sum.inl 1, Sum.inl n]) ++ [Sum.inl 0]) (b.flatMap (fun n => [Sum.inl 1, Sum.inl n]) ++ [Sum.inl 0]) = !lexI b a
  | [], [] => by decide
  | [], y :: t => by
    show (decide ((0 : Int) < 1) || _) = _
    rfl
  | x :: r, [] => by
    show (decide ((1 : Int) < 0) || (!decide ((0 : Int) < 1) && _)) = _
    rfl
  | x :: r, y :: t => by
    have ih := lex_flat r t
    show (decide ((1 : Int) < 1) || (!decide ((1 : Int) < 1) && (decide (x < y) || (!decide (y < x) && PyProof.Rows.lexLt itemOrd (r.flatMap (fun n => [Sum.inl 1, Sum.inl n]) ++ [Sum.inl 0]) (t.flatMap (fun n => [Sum.inl 1, Sum.inl n]) ++ [Sum.inl 0]))))) = _
    rw [ih, lexI]
    by_cases h1 : x < y
    · have h2 : ¬ y < x := by omega
      have h3 : ¬ y = x := by omega
      simp [h1, h2, h3]
    · by_cases h2 : y < x
      · simp [h1, h2]
      · have h3 : y = x := by omega
        simp [h1, h2, h3]
theorem dle_kI (a b : List Int) : PySem.W.dataLe false py (kI a) (kI b) = lexI a b := by
  unfold PySem.W.dataLe PySem.W.sortLe
  show (!PyProof.Rows.lexLt itemOrd (PySem.W.keyToks (py (kI b))) (PySem.W.keyToks (py (kI a)))) = _
  unfold kI
  rw [py, py, PySem.W.keyToks, PySem.W.keyToks, toks_kI, toks_kI, lex_flat, Bool.not_not]
theorem sort_kI (l : List (List Int)) : sortD (l.map kI) = (l.mergeSort lexI).map kI := by
  rw [sortD_map]
  congr 1
  congr 1
  funext a b; exact dle_kI a b
theorem lexI_trans : ∀ a b c : List Int, lexI a b = true → lexI b c = true → lexI a c = true
  | [], _, _, _, _ => rfl
  | _ :: _, [], _, h, _ => by cases h
  | _ :: _, _ :: _, [], _, h => by cases h
  | x :: r, y :: t, z :: u, h1, h2 => by
    simp only [lexI, Bool.or_eq_true, Bool.and_eq_true, decide_eq_true_eq] at *
    rcases h1 with h1 | ⟨h1, h3⟩ <;> rcases h2 with h2 | ⟨h2, h4⟩
    · left; omega
    · left; omega
    · left; omega
    · right; exact ⟨by omega, lexI_trans r t u h3 h4⟩
theorem lexI_total : ∀ a b : List Int, (lexI a b || lexI b a) = true
  | [], _ => rfl
  | _ :: _, [] => rfl
  | x :: r, y :: t => by
    have ih := lexI_total r t
    simp only [lexI, Bool.or_eq_true, Bool.and_eq_true, decide_eq_true_eq] at *
    by_cases h1 : x < y
    · left; left; exact h1
    · by_cases h2 : y < x
      · right; left; exact h2
      · rcases ih with h | h
        · left; right; exact ⟨by omega, h⟩
        · right; right; exact ⟨by omega, h⟩
theorem lexI_anti : ∀ a b : List Int, lexI a b = true → lexI b a = true → a = b
  | [], [], _, _ => rfl
  | [], _ :: _, _, h => by cases h
  | _ :: _, [], h, _ => by cases h
  | x :: r, y :: t, h1, h2 => by
    simp only [lexI, Bool.or_eq_true, Bool.and_eq_true, decide_eq_true_eq] at *
    have hxy : x = y := by rcases h1 with h1 | h1 <;> rcases h2 with h2 | h2 <;> omega
    subst hxy
    have k1 : lexI r t = true := by
      rcases h1 with h1 | h1
      · omega
      · exact h1.2
    have k2 : lexI t r = true := by
      rcases h2 with h2 | h2
      · omega
      · exact h2.2
    rw [lexI_anti r t k1 k2]
/-- alike long, within bounds: by their codes -/
theorem code_lex {B : Int} : ∀ {a b : List Int}, a.length = b.length → TS.Bd B a → TS.Bd B b → TS.code B a ≤ TS.code B b → lexI a b = true
  | [], _, _, _, _, _ => rfl
  | x :: r, [], h, _, _, _ => by simp at h
  | x :: r, y :: t, h, h1, h2, h3 => by
    have hl : r.length = t.length := by simpa using h
    simp only [lexI, Bool.or_eq_true, Bool.and_eq_true, decide_eq_true_eq]
    by_cases q : x < y
    · exact .inl q
    · by_cases q2 : y < x
      · have := TS.code_lt hl.symm h2.tail h1.tail q2
        omega
      · have e : x = y := by omega
        subst e
        refine .inr ⟨rfl, code_lex hl h1.tail h2.tail ?_⟩
        have h3 : x * B ^ r.length + TS.code B r ≤ x * B ^ t.length + TS.code B t := h3
        rw [hl] at h3
        omega
theorem sortset_tups {ks L : List (List Int)} (h1 : L.Pairwise (fun a b => lexI a b = true)) (h2 : L.Nodup) (h3 : ∀ k, k ∈ L ↔ k ∈ ks) : sortD (dedup (ks.map kI)) = L.map kI := by
  rw [dedup_once eqv_kI, sort_kI]
  congr 1
  exact sorted_uniq lexI_anti (List.pairwise_mergeSort lexI_trans lexI_total _) h1 ((List.mergeSort_perm _ _).nodup_iff.mpr (nodup_once _)) h2 fun x => by rw [List.mem_mergeSort, mem_once, h3]
theorem toInts_eq : ∀ {l : List D} {ns : List Int}, toInts l = some ns → l = ns.map D.int
  | [], ns, h => by cases h; rfl
  | .int i :: l, ns, h => by
    have z : (toInts l).map (i :: ·) = some ns := h
    obtain ⟨ms, m1, rfl⟩ := Option.map_eq_some_iff.mp z
    rw [toInts_eq m1]; rfl
  | .non :: _, _, h => by cases h
  | .bl _ :: _, _, h => by cases h
  | .str _ :: _, _, h => by cases h
  | .tup _ :: _, _, h => by cases h
  | .lst _ :: _, _, h => by cases h
  | .dct _ _ :: _, _, h => by cases h
  | .ref _ :: _, _, h => by cases h
  | .scr _ :: _, _, h => by cases h
/-- the tuples' places -/
theorem dens_tups {w : World} {K : PySem.W.Frag} {mu : Mu} {H : Hp} : ∀ {xs : List V} {l : List D}, Dens w K mu H xs l → (∀ d ∈ l, d.tupI.isSome = true) → ∃ ks : List (Addr × List Int), xs = ks.map (fun p => V.ref p.1) ∧ l = ks.map (fun p => kI p.2) ∧ ∀ p ∈ ks, SqT K H p.1 (p.2.map V.int) ∧ Den w K mu H (.ref p.1) (kI p.2)
  | _, _, .nil, _ => ⟨[], rfl, rfl, fun _ h => nomatch h⟩
  | _, _, .cons (d := d) h r, hd => by
    obtain ⟨ks, h1, h2, h3⟩ := dens_tups r fun d hd' => hd d (List.mem_cons_of_mem _ hd')
    have hd1 := hd d List.mem_cons_self
    cases d with
    | tup l =>
      obtain ⟨ns, hns⟩ := Option.isSome_iff_exists.mp hd1
      have hns : toInts l = some ns := hns
      cases h with
      | @tup a xs l ht rt =>
      have e1 := Dens.ints rt hns
      have e2 := toInts_eq hns
      subst e1 e2
      refine ⟨(a, ns) :: ks, by rw [h1]; rfl, by rw [h2]; rfl, fun p hp => ?_⟩
      rcases List.mem_cons.mp hp with rfl | hp
      · exact ⟨ht.sq, .tup ht rt⟩
      · exact h3 p hp
    | _ => cases hd1
theorem dens_of_tups {w : World} {K : PySem.W.Frag} {mu : Mu} {H : Hp} : ∀ {ks : List (Addr × List Int)}, (∀ p ∈ ks, Den w K mu H (.ref p.1) (kI p.2)) → Dens w K mu H (ks.map fun p => V.ref p.1) (ks.map fun p => kI p.2)
  | [], _ => .nil
  | p :: ks, h => .cons (h p List.mem_cons_self) (dens_of_tups fun q hq => h q (List.mem_cons_of_mem _ hq))
/-- a greatest one -/
theorem bound_of : ∀ (l : List Int), (∀ i ∈ l, 0 ≤ i) → ∃ B, 0 < B ∧ TS.Bd B l
  | [], _ => ⟨1, by decide, fun _ h => nomatch h⟩
  | i :: l, h => by
    obtain ⟨B, h1, h2⟩ := bound_of l fun j hj => h j (List.mem_cons_of_mem _ hj)
    have h0 := h i List.mem_cons_self
    refine ⟨if B ≤ i then i + 1 else B, by split <;> omega, fun m hm => ?_⟩
    rcases List.mem_cons.mp hm with rfl | hm
    · exact ⟨h0, by split <;> omega⟩
    · have := h2 m hm
      exact ⟨this.1, by split <;> omega⟩
theorem bound_all : ∀ (ks : List (Addr × List Int)), (∀ p ∈ ks, ∀ i ∈ p.2, 0 ≤ i) → ∃ B, 0 < B ∧ ∀ p ∈ ks, TS.Bd B p.2
  | [], _ => ⟨1, by decide, fun _ h => nomatch h⟩
  | p :: ks, h => by
    obtain ⟨B1, h1, h2⟩ := bound_all ks fun q hq => h q (List.mem_cons_of_mem _ hq)
    obtain ⟨B2, h3, h4⟩ := bound_of p.2 (h p List.mem_cons_self)
    refine ⟨if B1 ≤ B2 then B2 else B1, by split <;> omega, fun q hq m hm => ?_⟩
    rcases List.mem_cons.mp hq with rfl | hq
    · have := h4 m hm; exact ⟨this.1, by split <;> omega⟩
    · have := h2 q hq m hm; exact ⟨this.1, by split <;> omega⟩
end
section
variable {c : Tc} {X : Cx} {sc : Scope} {W : WS} {F : Cf} {n : Nat} {m : Bool}
def rSetA (X : Cx) : List V → Hp → VK → Prop := fun xs H Q => rSetN X.K X.w xs H Q ∨ rSetOfT X.K X.prog X.w xs H Q
def rSrtA (X : Cx) : List V → Hp → VK → Prop := fun xs H Q => rSortedSet X.w xs H Q ∨ rSortedT X.K X.prog X.w xs H Q
theorem run_asS2 {w : World} {K : PySem.W.Frag} {mu : Mu} {H : Hp} {W : WD} {st : Store} {d : D} {v : V} {Q : List D → Store → Mu → Hp → Prop} (hd : Den w K mu H v d) (R : RSt w K mu H st) (h : run w K (asS d st) mu H W Q) :
    ∃ a xs l, v = .ref a ∧ ((SqL K H a xs ∨ SqT K H a xs) ∧ (d.noTup = true → SqL K H a xs)) ∧ Dens w K mu H xs l ∧ Q l st mu H := by
  cases hd with
  | tup h1 r => exact ⟨_, _, _, rfl, ⟨.inr h1.sq, fun z => nomatch z⟩, r, run_ok h R⟩
  | lst h1 n r => exact ⟨_, _, _, rfl, ⟨.inl (SqL.of h1), fun _ => SqL.of h1⟩, r, run_ok h R⟩
  | @ref a n e =>
    unfold asS at h
    dsimp only at h
    cases q : st[n]? with
    | none => rw [q] at h; exact h.elim
    | some o =>
      rw [q] at h
      cases o with
      | lst l =>
        obtain ⟨xs, h1, h2⟩ := R.at e q
        exact ⟨a, xs, l, rfl, ⟨.inl (SqL.of h1), fun _ => SqL.of h1⟩, h2, run_ok h R⟩
      | dct k v => exact h.elim
  | _ => exact h.elim
/-- the two calls by the interpreter's one answer -/
theorem sortset_two {vs : List V} {H : Hp} {Q : VK} (h : rC X (bi m .sortset) vs H Q) : rSetA X vs H fun v H1 => rSrtA X [v] H1 Q := by
  obtain ⟨mu, st, l, W, hd, R, h⟩ := h
  match l, hd, h with
  | [], _, h => exact h.elim
  | a :: b :: l, _, h => cases a <;> exact h.elim
  | [d], hd, h =>
    obtain ⟨v, rfl, hv⟩ := dens1 hd
    obtain ⟨a, xs, l, rfl, ⟨hs, hsl⟩, hl, h⟩ := run_asS2 hv R (run_bind h)
    have h : run X.w X.K ((if setI l = true ∨ (setT l = true ∧ d.noTup = true) then newL m (sortD (dedup l)) else mbad : M D) st) mu H W (QV X.w X.K Q) := h
    by_cases hI : setI l = true
    · have h : run X.w X.K (newL m (sortD (dedup l)) st) mu H W (QV X.w X.K Q) := by
        rw [if_pos (Or.inl hI)] at h; exact h
      unfold setI at hI
      rw [Bool.and_eq_true, Bool.and_eq_true, decide_eq_true_eq, decide_eq_true_eq] at hI
      obtain ⟨ns, hns⟩ := Option.isSome_iff_exists.mp hI.2
      have e1 := Dens.ints hl hns
      subst e1
      have e2 := toInts_eq hns
      subst e2
      have hlen : ns.length < 4000 := by have := hI.1.1; rwa [List.length_map] at this
      have hlen2 : (once ns).length < 60 := by have := hI.1.2; rwa [dedup_once eqv_int, List.length_map] at this
      refine .inl ⟨a, ns, rfl, hs, hlen, fun p cnt hp hcnt => ?_⟩
      refine .inl ⟨p, fun j => decide (j ∈ ns), cnt, rfl, upd_same, by omega, fun ns' q hpw hmem hl' hq => ?_⟩
      rw [sortset_ints hpw (fun k => by rw [hmem, decide_eq_true_eq])] at h
      have hp' : (upd H p (SetO X.w p (fun j => decide (j ∈ ns)) cnt)) q = none := hq
      exact (run_newL (run_ext h (Ext.laid hp)) (R.new hp) (dens_ints ns')).2 q hp'
    · by_cases hT : setT l = true ∧ d.noTup = true
      · obtain ⟨hT, hnt⟩ := hT
        have h : run X.w X.K (newL m (sortD (dedup l)) st) mu H W (QV X.w X.K Q) := by
          rw [if_pos (Or.inr ⟨hT, hnt⟩)] at h; exact h
        unfold setT at hT
        rw [Bool.and_eq_true, decide_eq_true_eq, List.any_eq_true] at hT
        obtain ⟨hlen, k, _, hk⟩ := hT
        rw [List.all_eq_true] at hk
        have hk2 : ∀ d ∈ l, ∃ ns, d.tupI = some ns ∧ ns.length = k + 1 ∧ ∀ i ∈ ns, 0 ≤ i := fun d hd => by
          have z := hk d hd
          cases e : d.tupI with
          | none => rw [e] at z; cases z
          | some ns =>
            rw [e] at z
            dsimp only at z
            rw [Bool.and_eq_true, decide_eq_true_eq, List.all_eq_true] at z
            exact ⟨ns, rfl, z.1, fun i hi => of_decide_eq_true (z.2 i hi)⟩
        obtain ⟨ks, rfl, rfl, hks⟩ := dens_tups hl fun d hd => by
          obtain ⟨ns, e, _⟩ := hk2 d hd
          rw [e]; rfl
        have tupI_kI : ∀ ns, (kI ns).tupI = some ns := fun ns => toInts_map ns
        have hk3 : ∀ p ∈ ks, p.2.length = k + 1 ∧ ∀ i ∈ p.2, 0 ≤ i := fun p hp => by
          obtain ⟨ns, e, e2⟩ := hk2 (kI p.2) (List.mem_map_of_mem (f := fun p : Addr × List Int => kI p.2) hp)
          rw [tupI_kI] at e
          cases e; exact e2
        rw [List.length_map] at hlen
        have hs := hsl hnt
        obtain ⟨B, hB0, hB⟩ := bound_all ks fun p hp => (hk3 p hp).2
        refine .inr ⟨a, ks, rfl, hs, fun p hp => (hks p hp).1, by omega, fun p L hp hL1 hL2 => ?_⟩
        have sq2 : ∀ q ∈ L, SqT X.K (upd H p (SetTO X.prog X.w p L)) q.1 (q.2.map V.int) := fun q hq => by
          rcases (hks q (hL1 q hq)).1 with z | z
          · rcases z with z | ⟨o, z⟩
            · exact .inl (.inl (by rw [upd_ne (ne_of_none z hp)]; exact z))
            · exact .inl (.inr ⟨o, by rw [upd_ne (ne_of_none z hp)]; exact z⟩)
          · exact .inr z
        refine .inr ⟨p, L, k + 1, B, rfl, upd_same, sq2, by omega, fun q hq => ⟨(hk3 q (hL1 q hq)).1, hB q (hL1 q hq)⟩, fun L' q pm nd few pw hq => ?_⟩
        have mem' : ∀ x ∈ L', x ∈ ks := fun x hx => hL1 x (pm.mem_iff.mp hx)
        have srt : sortD (dedup (ks.map fun p => kI p.2)) = (L'.map (·.2)).map kI := by
          have z := sortset_tups (ks := ks.map (·.2)) (L := L'.map (·.2)) ?_ nd ?_
          · rw [List.map_map] at z; exact z
          · rw [List.pairwise_map]
            refine List.Pairwise.imp_of_mem (fun {x y} hx hy hxy => ?_) pw
            have b1 := hk3 x (mem' x hx)
            have b2 := hk3 y (mem' y hy)
            exact code_lex (b1.1.trans b2.1.symm) (hB x (mem' x hx)) (hB y (mem' y hy)) hxy
          · intro y
            constructor
            · intro hy
              obtain ⟨x, hx, rfl⟩ := List.mem_map.mp hy
              exact List.mem_map_of_mem (f := fun p : Addr × List Int => p.2) (mem' x hx)
            · intro hy
              obtain ⟨x, hx, rfl⟩ := List.mem_map.mp hy
              obtain ⟨z, hz, ez⟩ := List.mem_map.mp (hL2 x hx)
              rw [← ez]
              exact List.mem_map_of_mem (f := fun p : Addr × List Int => p.2) (pm.mem_iff.mpr hz)
        rw [srt, List.map_map] at h
        have hx : Ext mu H mu (upd H p (SetTO X.prog X.w p L)) := Ext.laid hp
        exact (run_newL (run_ext h hx) (R.new hp) (dens_of_tups fun x hx2 => ((hks x (mem' x hx2)).2).ext hx)).2 q hq
      · rw [if_neg (fun z => z.elim hI hT)] at h
        exact h.elim
end
end PI
set_option Elab.async false
set_option linter.all false
set_option maxRecDepth 100000
set_option maxHeartbeats 8000000
/-! PI, part ADU: sorted(set(..)), list(range(..)), tuple(range(..)): the expressions. -/
namespace PI
open PySem PySem.Spec PyProof.Rows L2
section
variable {c : Tc} {X : Cx} {sc : Scope} {W : WS} {F : Cf} {n : Nat} {m : Bool}
/-! ### ranges -/
def tRgA (t : TA) : L2.St → Hp → (Int → Int → Hp → Prop) → Prop := fun σ H Q => t σ H fun vs H1 => ∃ i j : Int, ((vs = [.int j] ∧ i = 0) ∨ vs = [.int i, .int j]) ∧ Q i j H1
theorem prg_A {e : Expr} {es : List Expr} {t : TA} {p pos : Pos} (hg : Gl X "range") (hm : X.mg "range" = none) (ha : PA X (e :: es) t) (he : starEach (e :: es) X.env = (false, eval e X.env) :: starEach es X.env) (hpl : (backTo pos (starEach es X.env)).any (·.1) = false) : PRg X (.Call (.Name "range" p) (e :: es) [] pos) (tRgA t) := by
  intro pins s σ H Q I h
  refine Call_ (ld_blt I hg hm boot_range (PyProof.Rows.callWith_type1 (thn (ha.run pos pins s σ H _ I h) fun us s1 ⟨vs, H1, I1, r1, q1⟩ => ?_) he hpl))
  obtain ⟨i, j, ⟨rfl, rfl⟩ | rfl, q⟩ := q1
  · cases r1 with
    | cons h1 r1 =>
      cases r1
      obtain ⟨t, rfl⟩ := h1
      exact call_range_1 ⟨_, 0, j, _, _, _, H1, rfl, IsRange.new _ _ _ _ _ _ _, I1.kept fun b u e => Heap.get?_push_of_some _ e, q⟩
  · cases r1 with
    | cons h1 r1 => cases r1 with
      | cons h2 r1 =>
        cases r1
        obtain ⟨t, rfl⟩ := h1
        obtain ⟨t', rfl⟩ := h2
        exact call_range_2 ⟨_, i, j, _, _, _, H1, rfl, IsRange.new _ _ _ _ _ _ _, I1.kept fun b u e => Heap.get?_push_of_some _ e, q⟩
theorem _root_.L2.PRg.imp {e : Expr} {t t' : L2.St → Hp → (Int → Int → Hp → Prop) → Prop} (h : PRg X e t) (k : ∀ σ H Q, t' σ H Q → t σ H Q) : PRg X e t' := fun pins s σ H Q I q => h pins s σ H Q I (k σ H Q q)
theorem dens_rg {w : World} {K : PySem.W.Frag} {mu : Mu} {H : Hp} (i j : Int) : Dens w K mu H (rgV i j) (intsD i (j - i).toNat) := by
  have e1 : rgV i j = ((List.range (j - i).toNat).map fun k => i + ((k : Nat) : Int)).map V.int := by unfold rgV; rw [List.map_map]; rfl
  have e2 : intsD i (j - i).toNat = ((List.range (j - i).toNat).map fun k => i + ((k : Nat) : Int)).map D.int := by unfold intsD; rw [List.map_map]; rfl
  rw [e1, e2]
  exact dens_ints _
theorem len_rg (i : Int) (n : Nat) : (intsD i n).length = n := by unfold intsD; rw [List.length_map, List.length_range]
/-- the interpreter's range, by its numbers -/
theorem run_rangeE {mu : Mu} {H : Hp} {st : Store} {W : WD} {l : List D} {Q : List D → Store → Mu → Hp → Prop} (h : run X.w X.K (rangeE l st) mu H W Q) (R : RSt X.w X.K mu H st) : ∃ i j : Int, ((l = [.int j] ∧ i = 0) ∨ l = [.int i, .int j]) ∧ (-(2 ^ 62) ≤ i ∧ i < 2 ^ 62 ∧ -(2 ^ 62) ≤ j ∧ j < 2 ^ 62) ∧ Q (intsD i (j - i).toNat) st mu H := by
  unfold rangeE at h
  split at h
  · rename_i j
    rcases if_cases (c := -(2 ^ 62) ≤ j ∧ j < 2 ^ 62) (a := (M.pure (intsD 0 j.toNat) : M (List D))) (b := mbad) (st := st) with ⟨c, z⟩ | ⟨c, z⟩
    · rw [z] at h
      refine ⟨0, j, .inl ⟨rfl, rfl⟩, ⟨by omega, by omega, c.1, c.2⟩, ?_⟩
      have e : (j - 0).toNat = j.toNat := by rw [Int.sub_zero]
      rw [e]
      exact run_pure h R
    · rw [z] at h
      exact h.elim
  · rename_i i j
    rcases if_cases (c := -(2 ^ 62) ≤ i ∧ i < 2 ^ 62 ∧ -(2 ^ 62) ≤ j ∧ j < 2 ^ 62) (a := (M.pure (intsD i (j - i).toNat) : M (List D))) (b := mbad) (st := st) with ⟨c, z⟩ | ⟨c, z⟩
    · rw [z] at h
      exact ⟨i, j, .inr rfl, c, run_pure h R⟩
    · rw [z] at h
      exact h.elim
  · exact h.elim
theorem rngE_vs {w : World} {K : PySem.W.Frag} {mu : Mu} {H : Hp} {l : List D} {vs : List V} {i j : Int} (h : (l = [.int j] ∧ i = 0) ∨ l = [.int i, .int j]) (hv : Dens w K mu H vs l) : (vs = [.int j] ∧ i = 0) ∨ vs = [.int i, .int j] := by
  rcases h with ⟨rfl, rfl⟩ | rfl
  · obtain ⟨v, rfl, hd⟩ := dens1 hv
    cases hd
    exact .inl ⟨rfl, rfl⟩
  · obtain ⟨v, u, rfl, hd, he⟩ := dens2 hv
    cases hd; cases he
    exact .inr rfl
theorem rngE_pre {t : Bool} {es : List Expr} {σ : L2.St} {H : Hp} {Q : VK} (q : tE X.w X.K (evE F (.rngE t m (esOf c n sc es))) W σ H Q) : tRgA (tA X.w X.K (evEs F (esOf c n sc es)) W) σ H fun i j H1 => RgOk i j ∧ ∀ p, H1 p = none → Q (.ref p) (upd H1 p (if t = true then .tup (rgV i j) else .lst (rgV i j))) := by
  obtain ⟨ρ, st, mu, E, R, q⟩ := q
  rw [evE] at q
  refine ⟨ρ, st, mu, E, R, run_mono (run_bind q) fun l st1 mu1 H1 x1 R1 q vs hv => ?_⟩
  obtain ⟨i, j, hl, ⟨b1, b2, b3, b4⟩, q⟩ := run_rangeE (run_bind q) R1
  refine ⟨i, j, rngE_vs hl hv, ?_⟩
  cases t with
  | true =>
    have q : run X.w X.K (newT (intsD i (j - i).toNat) st1) mu1 H1 (W σ) (QV X.w X.K Q) := q
    obtain ⟨h1, h2, _⟩ := run_newT q R1 (dens_rg i j)
    rw [len_rg, sizeLine_eq] at h1
    exact ⟨⟨b1, b2, b3, b4, by omega⟩, h2⟩
  | false =>
    have q : run X.w X.K (newL m (intsD i (j - i).toNat) st1) mu1 H1 (W σ) (QV X.w X.K Q) := q
    obtain ⟨h1, h2⟩ := run_newL q R1 (dens_rg i j)
    rw [len_rg, sizeLine_eq] at h1
    exact ⟨⟨b1, b2, b3, b4, by omega⟩, h2⟩
theorem rngArg_is {f : Str} {es : List Expr} {t : Bool} {rs : List Expr} (h : rngArg c sc f es = some (t, rs)) : (f = "list" ∨ f = "tuple") ∧ c.isFree sc f = true ∧ c.isFree sc "range" = true ∧ t = decide (f = "tuple") ∧ ∃ q pos, es = [.Call (.Name "range" q) rs [] pos] ∧ (rs.length = 1 ∨ rs.length = 2) ∧ rs.any isStar = false := by
  unfold rngArg at h
  split at h
  · rename_i h0
    split at h
    · rename_i g q rs' pos
      split at h
      · rename_i h1
        cases h
        obtain ⟨rfl, h2, h3⟩ := h1
        exact ⟨h0.1, h0.2.1, h0.2.2, rfl, q, pos, rfl, h2, h3⟩
      · cases h
    · cases h
  · cases h
theorem pe_rngD (S : Sound c F n) (C : Ctx c X sc W F) {f : Str} {es rs : List Expr} {t : Bool} {p pos : Pos} (h : rngArg c sc f es = some (t, rs)) : PE X (.Call (.Name f p) es [] pos) (tE X.w X.K (evE F (.rngE t m (esOf c n sc rs))) W) := by
  obtain ⟨hf, h1, h2, rfl, q, pos2, rfl, hl, hs⟩ := rngArg_is h
  obtain ⟨hg, hm⟩ := free_of C h1
  obtain ⟨hg2, hm2⟩ := free_of C h2
  obtain ⟨a, r, rfl⟩ : ∃ a r, rs = a :: r := by
    cases rs with
    | nil => simp at hl
    | cons a r => exact ⟨a, r, rfl⟩
  obtain ⟨s1, s2⟩ := any_star hs
  have P : PRg X (.Call (.Name "range" q) (a :: r) [] pos2) (tRgA (tA X.w X.K (evEs F (esOf c n sc (a :: r))) W)) := prg_A hg2 hm2 (S.pa (a :: r) C) (star_cons s1 r X.env) (back_any pos2 s2)
  rcases hf with rfl | rfl
  · exact (pe_listRg C.calm hg hm P (star_cons rfl [] X.env)).imp fun σ H Q q => rngE_pre (t := false) q
  · exact (pe_tupRg C.calm hg hm P (star_cons rfl [] X.env)).imp fun σ H Q q => rngE_pre (t := true) q
/-! ### sorted(set(..)) -/
theorem setArg_is {f : Str} {es : List Expr} {x : Expr} (h : setArg c sc f es = some x) : f = "sorted" ∧ c.isFree sc "sorted" = true ∧ c.isFree sc "set" = true ∧ ∃ q kw pos, es = [.Call (.Name "set" q) [x] kw pos] ∧ kw = [] ∧ isStar x = false := by
  unfold setArg at h
  split at h
  · rename_i h0
    split at h
    · rename_i g q x' pos
      split at h
      · rename_i h1
        cases h
        obtain ⟨rfl, h2⟩ := h1
        exact ⟨h0.1, h0.2.1, h0.2.2, q, [], pos, rfl, rfl, h2⟩
      · cases h
    · cases h
  · cases h
theorem boot_set : bootBuiltins "set" = some (.type "set") := by decide +kernel
theorem pe_setD (S : Sound c F n) (C : Ctx c X sc W F) {f : Str} {es : List Expr} {x : Expr} {p pos : Pos} (h : setArg c sc f es = some x) : PE X (.Call (.Name f p) es [] pos) (tE X.w X.K (evE F (.bi m .sortset (esOf c n sc [x]))) W) := by
  obtain ⟨rfl, h1, h2, q, kw, pos2, rfl, rfl, hs⟩ := setArg_is h
  obtain ⟨hg, hm⟩ := free_of C h1
  obtain ⟨hg2, hm2⟩ := free_of C h2
  have P1 : PE X (.Call (.Name "set" q) [x] [] pos2) (tCB (rSetA X) (tA X.w X.K (evEs F (esOf c n sc [x])) W)) := pe_callTy (callR_or (cr_setN C.calm) (cr_setOfT C.calm (by have := C.u1; omega))) hg2 hm2 boot_set (S.pa [x] C) (by decide) (by decide) (star_cons hs [] X.env) rfl
  have P2 := pe_callB (p := p) (pos := pos) (callR_or (cr_sortedSet C.calm) (cr_sortedT C.calm)) hg hm boot_sorted (pa_cons P1 pa_nil (star_cons rfl [] X.env)) (by decide) (by decide) (star_cons rfl [] X.env) rfl
  refine P2.imp fun σ H Q q => ?_
  rw [show evE F (.bi m .sortset (esOf c n sc [x])) = fun ρ => (do let l ← evEs F (esOf c n sc [x]) ρ; bi m .sortset l) from by funext ρ; rw [evE]] at q
  obtain ⟨ρ, st, mu, E, R, q⟩ := tA_call q
  exact ⟨ρ, st, mu, E, R, run_mono q fun l st1 mu1 H1 x1 R1 q vs hv => sortset_two (q vs hv)⟩
end
end PI
set_option Elab.async false
set_option linter.all false
set_option maxRecDepth 100000
set_option maxHeartbeats 16000000
/-! PI, part AE: expressions by the translator, all. -/
namespace PI
open PySem PySem.Spec PyProof.Rows L2
section
variable {c : Tc} {X : Cx} {sc : Scope} {W : WS} {F : Cf} {n : Nat} {m : Bool}
theorem pe_subD (S : Sound c F n) (C : Ctx c X sc W F) {a i : Expr} {p : Pos} : PE X (.Subscript a i p) (tE X.w X.K (evE F (eOf c (n + 1) sc (.Subscript a i p))) W) := by
  cases i with
  | Slice lo hi step p2 =>
    unfold eOf
    split <;> try (rename_i heq; cases heq)
    · exact pe_revD S C
    · exact pe_slD S C
    · exact pe_bad
    · rename_i h; exact (h _ _ _ _ rfl).elim
    all_goals exact pe_bad
  | _ => exact pe_ixD S C fun _ _ => rfl
theorem pe_callD (S : Sound c F n) (C : Ctx c X sc W F) {f : Expr} {es : List Expr} {kw : List Keyword} {p : Pos} : PE X (.Call f es kw p) (tE X.w X.K (evE F (eOf c (n + 1) sc (.Call f es kw p))) W) := by
  unfold eOf
  split <;> try (rename_i heq; cases heq)
  · split
    · exact pe_bad
    · rename_i hk
      have hk := Bool.of_not_eq_false hk
      split
      · rename_i hf
        split
        · rename_i e
          subst e
          split
          · rename_i ht
            split
            · rename_i k e
              exact pe_isi S C hf ht e
            · exact pe_bad
          · exact pe_bad
        · split
          · rename_i k e
            exact pe_bi S C e hf
          · exact pe_bad
      · split
        · rename_i hg
          split
          · rename_i k e
            split
            · rename_i h2
              exact pe_own S C hk hg e
            · exact pe_bad
          · exact pe_bad
        · exact pe_bad
  · split
    · exact pe_bad
    · rename_i hk
      have hk := Bool.of_not_eq_false hk
      split
      · rename_i e
        exact pe_setD S C e
      · split
        · rename_i e
          exact pe_rngD S C e
        · split
          · rename_i hf
            split
            · rename_i k e
              exact pe_bi S C e hf
            · exact pe_bad
          · split
            · rename_i hg
              split
              · rename_i k e
                split
                · rename_i h2
                  exact pe_own S C hk hg e
                · exact pe_bad
              · exact pe_bad
            · exact pe_bad
  · split
    · rename_i h
      obtain ⟨h1, rfl, rfl⟩ := h
      rename_i a b kp
      cases hs : isStar a with
      | true =>
        cases a <;> first | cases hs | skip
        refine pe_none fun ρ st => ?_
        rw [evE]
        refine bind_bad ?_
        have e : ∀ x y, eOf c n sc (.Starred x y) = .bad := fun x y => by cases n <;> rfl
        rw [e, evE]; rfl
      | false => exact pe_minD S C h1 hs
    · exact pe_bad
  · split
    · exact pe_bad
    · rename_i h
      simp only [not_or] at h
      obtain ⟨h1, h2, h3, h4⟩ := h
      split
      · rename_i k e
        exact pe_methD S C (Bool.of_not_eq_false h1) (Bool.eq_false_iff.mpr h2) (Nat.le_of_not_lt h3) (Bool.eq_false_iff.mpr h4) e
      · exact pe_bad
  all_goals exact pe_bad
theorem pe_lcD (S : Sound c F n) (C : Ctx c X sc W F) {elt : Expr} {gs : List Comprehension} {scope : Scope} {p : Pos} : PE X (.ListComp elt gs scope p) (tE X.w X.K (evE F (eOf c (n + 1) sc (.ListComp elt gs scope p))) W) := by
  unfold eOf
  split <;> try (rename_i heq; cases heq)
  · split
    · rename_i h
      split
      · rename_i t e
        split
        · rename_i g
          exact pe_compD S C h e g
        · exact pe_bad
      · exact pe_bad
    · exact pe_bad
  · split
    · rename_i h
      split
      · rename_i t t1 e e1
        split
        · rename_i g
          exact pe_compD2 S C h.1 e e1 g h.2
        · exact pe_bad
      · exact pe_bad
    · exact pe_bad
  all_goals exact pe_bad
theorem pe_dcmD (S : Sound c F n) (C : Ctx c X sc W F) {k v : Expr} {gs : List Comprehension} {scope : Scope} {p : Pos} : PE X (.DictComp k v gs scope p) (tE X.w X.K (evE F (eOf c (n + 1) sc (.DictComp k v gs scope p))) W) := by
  unfold eOf
  split <;> try (rename_i heq; cases heq)
  · split
    · rename_i h
      split
      · rename_i t e
        split
        · rename_i g
          exact pe_dcompD S C h e g
        · exact pe_bad
      · exact pe_bad
    · exact pe_bad
  all_goals exact pe_bad
theorem pe_dictD (S : Sound c F n) (C : Ctx c X sc W F) {ks : List (Option Expr)} {vs : List Expr} {p : Pos} : PE X (.Dict ks vs p) (tE X.w X.K (evE F (eOf c (n + 1) sc (.Dict ks vs p))) W) := by
  unfold eOf
  split <;> try (rename_i heq; cases heq)
  · exact pe_dct0D
  all_goals exact pe_bad
theorem pe_succ (S : Sound c F n) (C : Ctx c X sc W F) (x : Expr) : PE X x (tE X.w X.K (evE F (eOf c (n + 1) sc x)) W) := by
  cases x with
  | Constant v k p => exact pe_constant C
  | Name id p => exact pe_name C n
  | BinOp a op b p => exact pe_binop S C
  | UnaryOp op a p => exact pe_unary S C
  | BoolOp op es p => exact pe_boolop S C
  | Compare a ops bs p => exact (both_cmp S C).1
  | IfExp t a b p => exact (pe_ifExp (S.pt t C) (S.pe a C) (S.pe b C)).imp fun σ H Q q => tE_ite q
  | Tuple es k p => exact pe_tupD S C
  | List es p => exact pe_lstD S C
  | Subscript a i p => exact pe_subD S C
  | Call f es kw p => exact pe_callD S C
  | ListComp e g s p => exact pe_lcD S C
  | DictComp k v g s p => exact pe_dcmD S C
  | Dict ks vs p => exact pe_dictD S C
  | _ => exact pe_bad
end
end PI
set_option Elab.async false
set_option linter.all false
set_option maxRecDepth 100000
set_option maxHeartbeats 16000000
/-! PI, part AF: tests, arguments, iterators by the translator; expressions are sound. -/
namespace PI
open PySem PySem.Spec PyProof.Rows L2
section
variable {c : Tc} {X : Cx} {sc : Scope} {W : WS} {F : Cf} {n : Nat} {m : Bool}
def isLogicE : Expr → Bool
  | .UnaryOp .Not _ _ => true
  | .BoolOp _ _ _ => true
  | .IfExp _ _ _ _ => true
  | _ => false
theorem plainE (x : Expr) (h : isLogicE x = false) : (eOf c (n + 1) sc x).logic = false := by
  unfold eOf
  split <;> first
    | rfl
    | (cases h; done)
    | (split <;> first | rfl | (split <;> first | rfl | (split <;> first | rfl | (split <;> first | rfl | (split <;> first | rfl | (split <;> first | rfl | (split <;> first | rfl | (split <;> first | rfl | (split <;> rfl)))))))))
theorem pt_plain (S : Sound c F n) (C : Ctx c X sc W F) (x : Expr) (h : isLogicE x = false) (ht : ∀ whole, isTrue x X.env whole = (do let v ← whole; standAt x.pos; holding [v] (truthy v))) : PT X x (tT X.w X.K (evT F (eOf c (n + 1) sc x)) W) :=
  (pt_truth (pe_succ S C x) ht).imp fun σ H Q q => by
    rw [evT_plain (plainE x h)] at q
    exact tT_val q
theorem pt_succ (S : Sound c F n) (C : Ctx c X sc W F) (x : Expr) : PT X x (tT X.w X.K (evT F (eOf c (n + 1) sc x)) W) := by
  cases x with
  | UnaryOp op a p =>
    cases op with
    | Not => exact (pt_not (S.pt a C)).imp fun σ H Q q => tT_not q
    | _ => exact pt_plain S C _ rfl fun _ => rfl
  | BoolOp op es p => exact (pw_boolop S C).pt
  | Compare a ops bs p => exact (both_cmp S C).2
  | IfExp t a b p => exact (pt_ifExp (S.pt t C) (S.pt a C) (S.pt b C)).imp fun σ H Q q => tT_ite q
  | _ => exact pt_plain S C _ rfl fun _ => rfl
theorem pa_succ (S : Sound c F n) (C : Ctx c X sc W F) (es : List Expr) : PA X es (tA X.w X.K (evEs F (esOf c (n + 1) sc es)) W) := by
  cases es with
  | nil => exact pa_nilD
  | cons x r =>
    by_cases hs : (x :: r).any isStar = true
    · rw [esOf_star hs]; exact pa_badD
    · have hs := Bool.eq_false_iff.mpr hs
      rw [esOf_cons hs]
      exact (pa_cons (S.pe x C) (S.pa r C) (star_cons (any_star hs).1 r X.env)).imp fun σ H Q q => tA_cons q
theorem po_succ (S : Sound c F n) (C : Ctx c X sc W F) (o : Option Expr) : PO X o (tOo X (evEo F (eoOf c (n + 1) sc o)) W) := by
  cases o with
  | none =>
    refine ⟨fun pins s σ H Q I q => po_none.run pins s σ H Q I ?_⟩
    obtain ⟨ρ, st, mu, E, R, q⟩ := q
    have e : eoOf c (n + 1) sc none = .none := rfl
    rw [e, evEo] at q
    exact run_pure q R
  | some x =>
    refine ⟨fun pins s σ H Q I q => (po_some (S.pe x C)).run pins s σ H Q I ?_⟩
    obtain ⟨ρ, st, mu, E, R, q⟩ := q
    have e : eoOf c (n + 1) sc (some x) = .some (eOf c n sc x) := rfl
    rw [e, evEo] at q
    refine ⟨ρ, st, mu, E, R, run_mono (run_bind q) fun d st1 mu1 H1 x1 R1 q v hv => ?_⟩
    cases hv with
    | int i => exact ⟨i, rfl, run_pure q R1⟩
    | _ => exact q.elim
theorem pts_succ (S : Sound c F n) (C : Ctx c X sc W F) (es : List Expr) : PTs X es (tT X.w X.K (evTs F (tsts c (n + 1) sc es)) W) := by
  match es with
  | [] =>
    refine ⟨fun pins s σ H Q I q => pts_nil.run pins s σ H Q I ?_⟩
    obtain ⟨ρ, st, mu, E, R, q⟩ := q
    have e : tsts c (n + 1) sc [] = .nil := rfl
    rw [e, evTs] at q
    exact run_pure q R
  | [x] =>
    refine ⟨fun pins s σ H Q I q => (pts_one (S.pt x C)).run pins s σ H Q I ?_⟩
    obtain ⟨ρ, st, mu, E, R, q⟩ := q
    have e : tsts c (n + 1) sc [x] = .cons (eOf c n sc x) .nil := rfl
    rw [e, evTs] at q
    exact ⟨ρ, st, mu, E, R, q⟩
  | x :: y :: r =>
    refine ⟨fun pins s σ H Q I q => ?_⟩
    obtain ⟨ρ, st, mu, E, R, q⟩ := q
    have e : tsts c (n + 1) sc (x :: y :: r) = .cons .bad .nil := rfl
    rw [e, evTs] at q
    exact (tT_bad ⟨ρ, st, mu, E, R, q⟩).elim
/-! ### iterators -/
theorem evEs_len : ∀ {es : List Expr} {n : Nat} {ρ : Env} {st st' : Store} {l : List D}, evEs F (esOf c n sc es) ρ st = .ok l st' → l.length = es.length
  | es, 0, ρ, st, st', l, h => by
    have e : esOf c 0 sc es = .cons .bad .nil := by cases es <;> rfl
    rw [e, evEs_bad] at h
    cases h
  | [], n + 1, ρ, st, st', l, h => by
    have e : esOf c (n + 1) sc [] = .nil := rfl
    rw [e, evEs] at h
    cases h
    rfl
  | x :: r, n + 1, ρ, st, st', l, h => by
    by_cases hs : (x :: r).any isStar = true
    · rw [esOf_star hs, evEs_bad] at h
      cases h
    · rw [esOf_cons (Bool.eq_false_iff.mpr hs), evEs, bind_def] at h
      cases e1 : evE F (eOf c n sc x) ρ st with
      | ok d st1 =>
        rw [e1] at h
        have h : (evEs F (esOf c n sc r) ρ >>= fun l => M.pure (d :: l)) st1 = .ok l st' := h
        rw [bind_def] at h
        cases e2 : evEs F (esOf c n sc r) ρ st1 with
        | ok l1 st2 =>
          rw [e2] at h
          cases h
          exact congrArg Nat.succ (evEs_len e2)
        | err _ _ _ => rw [e2] at h; cases h
        | bad => rw [e2] at h; cases h
      | err _ _ _ => rw [e1] at h; cases h
      | bad => rw [e1] at h; cases h
theorem tA_len {es : List Expr} {σ : L2.St} {H : Hp} {Q : List V → Hp → Prop} (q : tA X.w X.K (evEs F (esOf c n sc es)) W σ H Q) : tA X.w X.K (evEs F (esOf c n sc es)) W σ H fun vs H1 => vs.length = es.length ∧ Q vs H1 := by
  obtain ⟨ρ, st, mu, E, R, q⟩ := q
  refine ⟨ρ, st, mu, E, R, ?_⟩
  cases e : evEs F (esOf c n sc es) ρ st with
  | ok l st1 =>
    rw [e] at q
    exact fun mu1 H1 x1 R1 vs hv => ⟨hv.length.trans (evEs_len e), q mu1 H1 x1 R1 vs hv⟩
  | err c as st1 => rw [e] at q; exact q
  | bad => rw [e] at q; exact q
theorem _root_.L2.PI.imp {tg e : Expr} {t t' : TI} (h : PI X tg e t) (k : ∀ σ H Q, t' σ H Q → t σ H Q) : PI X tg e t' := ⟨fun pins s σ H Q I q => h.run pins s σ H Q I (k σ H Q q)⟩
theorem pi_none {tg x : Expr} {i : It} (h : ∀ ρ st, evIt F i ρ st = .bad) : PI X tg x (tI X (evIt F i) W) := ⟨fun _ _ _ _ _ _ q => by
  obtain ⟨ρ, st, mu, _, _, q⟩ := q
  rw [h] at q
  exact q.elim⟩
theorem pi_rngD (S : Sound c F n) (C : Ctx c X sc W F) {tg : Expr} {as : List Expr} {p pos : Pos} (hf : c.isFree sc "range" = true) (hl : as.length = 1 ∨ as.length = 2 ∨ as.length = 3) : PI X tg (.Call (.Name "range" p) as [] pos) (tI X (evIt F (.rng (esOf c n sc as))) W) := by
  obtain ⟨hg, hm⟩ := free_of C hf
  by_cases hs : as.any isStar = true
  · refine pi_none fun ρ st => ?_
    rw [evIt, esOf_star hs]
    exact bind_bad evEs_bad
  · have hs := Bool.eq_false_iff.mpr hs
    have key : ∀ (σ : L2.St) (H : Hp) (R : L2.It → Hp → Prop), tI X (evIt F (.rng (esOf c n sc as))) W σ H R → tA X.w X.K (evEs F (esOf c n sc as)) W σ H fun vs H1 => vs.length = as.length ∧ ((∃ j : Int, vs = [.int j] ∧ -(2 ^ 62) ≤ j ∧ j < 2 ^ 62 ∧ R (Itr 0 j.toNat) H1) ∨ (∃ i j : Int, vs = [.int i, .int j] ∧ (-(2 ^ 62) ≤ i ∧ i < 2 ^ 62 ∧ -(2 ^ 62) ≤ j ∧ j < 2 ^ 62) ∧ R (Itr i (j - i).toNat) H1) ∨ (∃ (i j c : Int) (n : Nat), vs = [.int i, .int j, .int c] ∧ RgC i j c n ∧ R (Itc i c n) H1)) := fun σ H R q => by
      obtain ⟨ρ, st, mu, E, R', q⟩ := q
      rw [evIt] at q
      exact tA_len (tI_rng ⟨ρ, st, mu, E, R', q⟩)
    match as, hl, hs, key with
    | [a], _, hs, key =>
      refine (pi_range1 hg hm (S.pa [a] C) (star_cons (any_star hs).1 [] X.env)).imp fun σ H R q => ?_
      obtain ⟨ρ, st, mu, E, R', q⟩ := key _ _ _ q
      refine ⟨ρ, st, mu, E, R', run_mono q fun l st1 mu1 H1 x1 R1 q vs hv => ?_⟩
      obtain ⟨hl, ⟨j, e, q1, q2, q3⟩ | ⟨i, j, e, _⟩ | ⟨i, j, k, n', e, _⟩⟩ := q vs hv
      · exact ⟨j, e, q1, q2, q3⟩
      · rw [e] at hl; cases hl
      · rw [e] at hl; cases hl
    | [a, b], _, hs, key =>
      refine (pi_range2 hg hm (S.pa [a, b] C) (by rw [star_cons (any_star hs).1, star_cons (any_star (any_star hs).2).1]; rfl) (star_cons (any_star (any_star hs).2).1 [] X.env)).imp fun σ H R q => ?_
      obtain ⟨ρ, st, mu, E, R', q⟩ := key _ _ _ q
      refine ⟨ρ, st, mu, E, R', run_mono q fun l st1 mu1 H1 x1 R1 q vs hv => ?_⟩
      obtain ⟨hl, ⟨j, e, q1, q2, q3⟩ | ⟨i, j, e, q1, q2⟩ | ⟨i, j, k, n', e, _⟩⟩ := q vs hv
      · rw [e] at hl; cases hl
      · exact ⟨i, j, e, q1, q2⟩
      · rw [e] at hl; cases hl
    | [a, b, d], _, hs, key =>
      refine (pi_range3 hg hm (S.pa [a, b, d] C) (star_cons (any_star hs).1 [b, d] X.env) (back_any pos (any_star hs).2)).imp fun σ H R q => ?_
      obtain ⟨ρ, st, mu, E, R', q⟩ := key _ _ _ q
      refine ⟨ρ, st, mu, E, R', run_mono q fun l st1 mu1 H1 x1 R1 q vs hv => ?_⟩
      obtain ⟨hl, ⟨j, e, q1, q2, q3⟩ | ⟨i, j, e, q1, q2⟩ | ⟨i, j, k, n', e, q1, q2⟩⟩ := q vs hv
      · rw [e] at hl; cases hl
      · rw [e] at hl; cases hl
      · exact ⟨i, j, k, n', e, q1, q2⟩
    | [], hl, _, _ => simp at hl
    | _ :: _ :: _ :: _ :: _, hl, _, _ => simp at hl
theorem pi_seq (S : Sound c F n) (C : Ctx c X sc W F) {tg x : Expr} : PI X tg x (tI X (evIt F (.seq (eOf c n sc x))) W) := (pi_seqD (S.pe x C)).imp fun σ H R q => by
  obtain ⟨ρ, st, mu, E, R', q⟩ := q
  rw [evIt] at q
  exact tI_seq ⟨ρ, st, mu, E, R', q⟩
theorem isTup_is {tg : Expr} (h : isTupE tg = true) : ∃ es k p, tg = .Tuple es k p := by
  cases tg <;> first | exact ⟨_, _, _, rfl⟩ | cases h
theorem star_bad {a : Expr} (h : isStar a = true) (ρ : Env) (st : Store) : evE F (eOf c n sc a) ρ st = .bad := by
  cases a <;> first | cases h | skip
  have e : ∀ x y, eOf c n sc (.Starred x y) = .bad := fun x y => by cases n <;> rfl
  rw [e, evE]
  rfl
theorem pi_succ (S : Sound c F n) (C : Ctx c X sc W F) (tg x : Expr) : PI X tg x (tI X (evIt F (itOf c (isTupE tg) (n + 1) sc x)) W) := by
  unfold itOf
  split
  · split
    · rename_i hf
      split
      · rename_i e
        subst e
        split
        · rename_i hl
          exact pi_rngD S C hf hl
        · exact pi_badD
      · split
        · rename_i a
          split
          · rename_i e
            subst e
            split
            · rename_i ht
              obtain ⟨es, k, p, rfl⟩ := isTup_is ht
              obtain ⟨hg, hm⟩ := free_of C hf
              cases hs : isStar a with
              | true =>
                refine pi_none fun ρ st => ?_
                rw [evIt]
                exact bind_bad (star_bad hs ρ st)
              | false =>
                refine (pi_enumA hg hm (pa_cons (S.pe a C) pa_nil (star_cons hs [] X.env)) hs).imp fun σ H R q => ?_
                obtain ⟨ρ, st, mu, E, R', q⟩ := q
                rw [evIt] at q
                exact tI_enum ⟨ρ, st, mu, E, R', q⟩
            · exact pi_badD
          · exact pi_seq S C
        · rename_i a b
          split
          · rename_i e
            subst e
            split
            · rename_i ht
              obtain ⟨es, k, p, rfl⟩ := isTup_is ht.1
              have hs2 := ht.2
              obtain ⟨hg, hm⟩ := free_of C hf
              cases hs : isStar a with
              | true =>
                refine pi_none fun ρ st => ?_
                rw [evIt]
                exact bind_bad (star_bad hs ρ st)
              | false =>
                  refine (RZ.pi_zipA hg hm (pa_cons (S.pe a C) (pa_cons (S.pe b C) pa_nil (star_cons hs2 [] X.env)) (star_cons hs [b] X.env)) (star_cons hs [b] X.env) (by rw [star_cons hs2]; rfl)).imp fun σ H R q => ?_
                  obtain ⟨ρ, st, mu, E, R', q⟩ := q
                  rw [evIt] at q
                  exact tI_zip ⟨ρ, st, mu, E, R', q⟩
            · exact pi_badD
          · exact pi_seq S C
        · exact pi_seq S C
    · exact pi_seq S C
  · exact pi_seq S C
theorem sound (c : Tc) (F : Cf) : ∀ n, Sound c F n
  | 0 => sound_zero
  | n + 1 => 
    have S := sound c F n
    { pe := fun x C => pe_succ S C x
      pt := fun x C => pt_succ S C x
      pw := fun op es pos C => pw_boolop S C
      pa := fun es C => pa_succ S C es
      po := fun o C => po_succ S C o
      pts := fun es C => pts_succ S C es
      pi := fun tg x C => pi_succ S C tg x }
end
end PI
set_option Elab.async false
set_option linter.all false
set_option maxRecDepth 100000
set_option maxHeartbeats 16000000
/-! PI, part AG: statements by the translator: where they stand, stores, clauses. -/
namespace PI
open PySem PySem.Spec PyProof.Rows L2
/-- what statements ask of where they stand, beyond Ctx -/
structure SCtx (c : Tc) (X : Cx) (sc0 : Scope) (W : WS) (F : Cf) : Prop extends Ctx c X sc0 W F where
  hp : PassesOwn (model X.prog X.w) X.A X.env X.xe
  asg : AsgOk X sc0
  stk : X.stack = X.env :: X.outer
  frame : X.env.frame = some X.env.locals
  exc : ∀ x, c.exc.contains x = true → ExcOk X x
  sub : ∀ a h b, F.sub a h = some b → PySem.W.exmOne X.K (.ref (He.ga X.K a)) (.ref (He.ga X.K h)) = some b
section
variable {c : Tc} {X : Cx} {sc : Scope} {W : WS} {F : Cf} {n : Nat} {m : Bool} {De : Ends} {σ : L2.St} {H : Hp}
theorem SCtx.try_ (C : SCtx c X sc W F) {pn : List (Addr × Obj)} {xe : Value → Shared → Prop} {W' : WS} (tk : TakesI (X.tr pn xe) W') (hp : PassesOwn (model X.prog X.w) X.A X.env xe) : SCtx c (X.tr pn xe) sc W' F where
  N := C.N
  nd := C.nd
  sc := C.sc
  kind := C.kind
  calm := C.calm
  u1 := C.u1
  u2 := C.u2
  gc := C.gc
  fr := C.fr
  own := C.own
  tk := tk
  hp := hp
  asg := C.asg
  stk := C.stk
  frame := C.frame
  exc := fun x hx => ⟨(C.exc x hx).mg, (C.exc x hx).exc, (C.exc x hx).keep, (C.exc x hx).sub, (C.exc x hx).ty⟩
  sub := C.sub
theorem ps_none {x : Stmt} {b : Env → Store → SRes} (h : ∀ ρ st, b ρ st = .bad) : PS X x (tS X.w X.K b W) := ⟨fun _ _ _ _ _ _ q => by
  obtain ⟨ρ, st, mu, _, _, q⟩ := q
  rw [h] at q
  exact q.elim⟩
theorem ps_bad {x : Stmt} : PS X x (tS X.w X.K (evS F .bad) W) := ps_none fun ρ st => by rw [evS]
/-! ### stores -/
theorem tg_st (C : SCtx c X sc W F) {tg : Expr} {t : T} (e : tOf c sc n tg = some t) : PG X tg (gD X t) ∧ (assignEach [tg] X.env).map (·.2) = [assign tg X.env] := by
  obtain ⟨h1, h2, _⟩ := (pgD (X := X) C.N C.nd C.calm C.asg n).1 tg t e
  exact ⟨h1, h2⟩
theorem fv_ofM_bad {α : Type} {x : M α} {ρ : Env} {k : α → Store → SRes} {st : Store} (h : x st = .bad) : ofM x ρ k st = .bad := by unfold ofM; rw [h]
/-- whether a comprehension's value goes to the name as it is made -/
def swapC (env : PySem.Env) (y : Str) (p : Pos) (scope : Scope) (q : Pos) : Bool := env.blockKind == .function && env.kindOf y == some .local && p.line == q.line && !(scope.names.any fun (n, k) => n == y && (k == .local || k == .cell))
theorem name_slot {y : Str} {p : Pos} {t : T} (e : tOf c sc n (.Name y p) = some t) : ∃ i, slot c.N y = some i ∧ t = .nm i ∧ isLoc sc y = true := by
  cases n with
  | zero => cases e
  | succ n =>
    unfold tOf at e
    dsimp only at e
    split at e
    · rename_i g
      cases e2 : slot c.N y with
      | none => rw [e2] at e; cases e
      | some i =>
        rw [e2] at e
        cases e
        exact ⟨i, rfl, rfl, g.2⟩
    · cases e
theorem kind_loc {env : PySem.Env} {y : Str} (h : (env.kindOf y == some .local) = true) : env.scope.names.lookup y = some .local := eq_of_beq h
theorem tS_asgN {i : Nat} {e : E} (h : tS X.w X.K (evS F (.asg (.nm i) e)) W De σ H) : tAsg (tE X.w X.K (evE F e) W) (gName i) De σ H := by
  obtain ⟨ρ, st, mu, E, R, h⟩ := h
  rw [evS] at h
  refine ⟨ρ, st, mu, E, R, run_mono (run_ofM h E) fun d st1 mu1 H1 x1 R1 q v hv => ?_⟩
  exact q mu1 H1 _ .refl R1 ((E.ext x1).set hv)
theorem swapsD (C : SCtx c X sc W F) {y : Str} {py q : Pos} {e : Expr} {scope : Scope} {l : Nat} (h : (∃ elt gs, e = .ListComp elt gs scope q) ∨ (∃ k v gs, e = .DictComp k v gs scope q)) : swapsWith e (some (.Name y py)) l X.env = pure (swapC X.env y py scope q) := by
  rcases h with ⟨elt, gs, rfl⟩ | ⟨k, v, gs, rfl⟩ <;> rfl
theorem swapC_loc {env : PySem.Env} {y : Str} {py q : Pos} {scope : Scope} (h : swapC env y py scope q = true) : env.scope.names.lookup y = some .local := by
  unfold swapC at h
  simp only [Bool.and_eq_true] at h
  exact kind_loc h.1.1.2
theorem asg_none {x : Stmt} {t : T} {e : E} (h : ∀ ρ st, evE F e ρ st = .bad) : PS X x (tS X.w X.K (evS F (.asg t e)) W) := ps_none fun ρ st => by
  rw [evS]
  exact fv_ofM_bad (h ρ st)
theorem bad_ev (ρ : Env) (st : Store) : evE F .bad ρ st = .bad := by rw [evE]; rfl
theorem psD_setLc (C : SCtx c X sc W F) {y : Str} {i : Nat} {py p spos : Pos} {elt : Expr} {gs : List Comprehension} {scope : Scope} (hi : slot c.N y = some i) (hsw : swapC X.env y py scope p = true) :
    PS X (.Assign [.Name y py] (.ListComp elt gs scope p) spos) (tS X.w X.K (evS F (.asg (.nm i) (eOf c n sc (.ListComp elt gs scope p)))) W) := by
  cases n with
  | zero => exact asg_none bad_ev
  | succ n =>
    have S := sound c F n
    have C0 := C.toCtx
    have hN : X.N[i]? = some y := by rw [C.N]; exact slot_get hi
    unfold eOf
    split <;> try (rename_i heq; cases heq)
    · rename_i tg it ifs
      split
      · rename_i h
        split
        · rename_i t e
          split
          · rename_i hs
            cases g : isSetE it with
            | true =>
              refine asg_none fun ρ st => ?_
              rw [evE]
              exact bind_bad (it_set g n ρ st)
            | false =>
              have ok := blk_ok C0 h
              exact (ps_setLc C.calm C0.nd' hN (swapC_loc hsw) (by rw [swapsD C (.inl ⟨_, _, rfl⟩), hsw]) (S.pi tg it C0) ok (fun s H Ca cl fp => tg_blk C0 e s H Ca cl fp) (fun s H Ca cl fp => S.pts ifs (C0.blk ok s H Ca cl fp)) (fun s H Ca cl fp => S.pe elt (C0.blk ok s H Ca cl fp)) (fold_plain g X.env)).imp fun D σ H h => tE_comp (tg_own hs) (tS_asgN h)
          · exact asg_none bad_ev
        · exact asg_none bad_ev
      · exact asg_none bad_ev
    · rename_i tg it ifs tg1 it1 ifs1
      split
      · rename_i h
        split
        · rename_i t t1 e e1
          split
          · rename_i hs
            cases g : isSetE it with
            | true =>
              refine asg_none fun ρ st => ?_
              rw [evE]
              exact bind_bad (it_set g n ρ st)
            | false =>
              have ok := blk_ok C0 h.1
              have hs' := tg_own hs
              exact (ps_setLc2 (vs1 := tgSlots t1) C.calm C0.nd' hN (swapC_loc hsw) (by rw [swapsD C (.inl ⟨_, _, rfl⟩), hsw]) (S.pi tg it C0) ok (fun i hi => hs' i (List.mem_append_right _ hi)) (fun s H Ca cl fp => tg_blk C0 e s H Ca cl fp) (fun s H Ca cl fp => S.pts ifs (C0.blk ok s H Ca cl fp)) (fun s H Ca cl fp => pi_blk (S.pi tg1 it1 (C0.blk ok s H Ca cl fp)))
                (fun s H Ca cl fp => tg_blk C0 e1 s H Ca cl fp) (fun s H Ca cl fp => S.pts ifs1 (C0.blk ok s H Ca cl fp)) (fun s H Ca cl fp => S.pe elt (C0.blk ok s H Ca cl fp)) (fold_plain g X.env) (fold_plain h.2)).imp fun D σ H h => tE_comp2 (fun i hi => hs' i (List.mem_append_left _ hi)) (fun i hi => hi) (tS_asgN h)
          · exact asg_none bad_ev
        · exact asg_none bad_ev
      · exact asg_none bad_ev
    all_goals exact asg_none bad_ev
/-- name = {..} of one line, stored as it is made -/
theorem ps_setDcD {i : Nat} {y : Str} {py : Pos} {kx vx tg iter : Expr} {ifs : List Expr} {scope : Scope} {own : List (Str × Nat)} {pos spos : Pos} {wi : TI} {g : TG} {tt : TT} {tk tv : TE} (hu : X.A.units + 8 < cLine) (hc : X.calm = true) (hN : X.N.Nodup) (hy : X.N[i]? = some y) (hyl : X.env.scope.names.lookup y = some .local)
    (hsw : swapsWith (.DictComp kx vx [⟨tg, iter, ifs, 0⟩] scope pos) (some (.Name y py)) spos.line X.env = pure true) (hi : PI X tg iter wi) (ok : BlkOk X.N X.env.scope scope own)
    (hg : ∀ (s : Shared) (H : Hp) (Ca : Addr) (cl : List (Str × Addr)) (fp : List Addr), PG (X.blk s H scope (compEnvC scope cl Ca X.env) fp) tg g) (ht : ∀ (s : Shared) (H : Hp) (Ca : Addr) (cl : List (Str × Addr)) (fp : List Addr), PTs (X.blk s H scope (compEnvC scope cl Ca X.env) fp) ifs tt)
    (hk : ∀ (s : Shared) (H : Hp) (Ca : Addr) (cl : List (Str × Addr)) (fp : List Addr), PE (X.blk s H scope (compEnvC scope cl Ca X.env) fp) kx tk)
    (he : ∀ (s : Shared) (H : Hp) (Ca : Addr) (cl : List (Str × Addr)) (fp : List Addr), PE (X.blk s H scope (compEnvC scope cl Ca X.env) fp) vx tv) (hs : ∀ x, foldedSetIterable iter X.env x = pure x) :
    PS X (.Assign [.Name y py] (.DictComp kx vx [⟨tg, iter, ifs, 0⟩] scope pos) spos) (tAsg (tDcD X wi g tt tk tv (own.map (·.2))) (gName i)) := by
  refine ⟨fun pins s σ H De I q => ?_⟩
  rw [exec_Assign_Name_used _ _ _ _ hsw]
  refine wpAny_bind (wpAny_standAt (wpAny_bind ?_))
  show wpAny _ X.A (do let _ ← comprehension (.DictComp kx vx [⟨tg, iter, ifs, 0⟩] scope pos) scope X.env (firstIterPos [⟨tg, iter, ifs, 0⟩] pos) newDict false (eval iter X.env) (some (assign (.Name y py) X.env))) _ _ s
  have q : tDcD X wi g tt tk tv (own.map (·.2)) σ H (fun x H1 => gName i x σ H1 De.nx) := q
  refine wpAny_bind (thn (dcD_core (Qf := fun _ s' => SP X pins De .next s') hu hc hN I hi ok hg ht hk he hs q fun L Ca s' m H' I' q hn f => ?_) fun _ s' hq => wpAny_pure (wpAny_pure hq))
  show wpAny _ _ (assign (.Name y py) X.env (.ref L)) _ _ _
  refine wpAny_assign_Name (store_ok2 (v := V.ref L) I' hN hy (.inl hyl) rfl (fun s2 I2 ⟨a, sb, at_⟩ => ?_) (.inr hyl))
  obtain ⟨k0, k1, k2, k3, k4, k5⟩ := f
  have off : Ca ≠ a := by
    rcases at_ with z | z
    · rw [z]; exact k1
    · exact fun e => k4 y a z e.symm
  refine ⟨m, hn.sameBut sb off, fun h3 sb3 => ?_⟩
  exact ⟨_, H', I2.turned (t' := s2.toks) (fun b o hb e => (sb3.2 b hb).trans e) k0 k1 k3 k4 k5, q⟩
theorem psD_setDc (C : SCtx c X sc W F) {y : Str} {i : Nat} {py p spos : Pos} {k v : Expr} {gs : List Comprehension} {scope : Scope} (hi : slot c.N y = some i) (hsw : swapC X.env y py scope p = true) :
    PS X (.Assign [.Name y py] (.DictComp k v gs scope p) spos) (tS X.w X.K (evS F (.asg (.nm i) (eOf c n sc (.DictComp k v gs scope p)))) W) := by
  cases n with
  | zero => exact asg_none bad_ev
  | succ n =>
    have S := sound c F n
    have C0 := C.toCtx
    have hN : X.N[i]? = some y := by rw [C.N]; exact slot_get hi
    unfold eOf
    split <;> try (rename_i heq; cases heq)
    · rename_i tg it ifs
      split
      · rename_i h
        split
        · rename_i t e
          split
          · rename_i hs
            cases g : isSetE it with
            | true =>
              refine asg_none fun ρ st => ?_
              rw [evE]
              exact bind_bad (it_set g n ρ st)
            | false =>
              have ok := blk_ok C0 h
              exact (ps_setDcD (by have := C.u1; omega) C.calm C0.nd' hN (swapC_loc hsw) (by rw [swapsD C (.inr ⟨_, _, _, rfl⟩), hsw]) (S.pi tg it C0) ok (fun s H Ca cl fp => tg_blk C0 e s H Ca cl fp) (fun s H Ca cl fp => S.pts ifs (C0.blk ok s H Ca cl fp)) (fun s H Ca cl fp => S.pe k (C0.blk ok s H Ca cl fp)) (fun s H Ca cl fp => S.pe v (C0.blk ok s H Ca cl fp)) (fold_plain g X.env)).imp fun D σ H h => tE_dcomp (tg_own hs) (tS_asgN h)
          · exact asg_none bad_ev
        · exact asg_none bad_ev
      · exact asg_none bad_ev
    all_goals exact asg_none bad_ev
/-- t = e, one target, e no pair for a pair -/
theorem psD_asg (C : SCtx c X sc W F) {tg e : Expr} {t : T} {pos : Pos} (et : tOf c sc n tg = some t) (hw : swappedStores [tg] e X.env = pure none) : PS X (.Assign [tg] e pos) (tS X.w X.K (evS F (.asg t (eOf c n sc e))) W) := by
  have S := sound c F n
  obtain ⟨g1, g2⟩ := tg_st C et
  have plain : swapsWith e (some tg) pos.line X.env = pure false → PS X (.Assign [tg] e pos) (tS X.w X.K (evS F (.asg t (eOf c n sc e))) W) := fun hs =>
    (ps_asg (S.pe e C.toCtx) g1 hs hw g2).imp fun D σ H h => tS_asg h
  cases e with
  | ListComp elt gs scope q =>
    cases tg with
    | Name y py =>
      obtain ⟨i, e1, rfl, _⟩ := name_slot et
      cases hb : swapC X.env y py scope q with
      | true => exact psD_setLc C e1 hb
      | false => exact plain (by rw [swapsD C (.inl ⟨_, _, rfl⟩), hb])
    | _ => exact plain rfl
  | DictComp k v gs scope q =>
    cases tg with
    | Name y py =>
      obtain ⟨i, e1, rfl, _⟩ := name_slot et
      cases hb : swapC X.env y py scope q with
      | true => exact psD_setDc C e1 hb
      | false => exact plain (by rw [swapsD C (.inr ⟨_, _, _, rfl⟩), hb])
    | _ => exact plain rfl
  | SetComp elt gs scope q =>
    have z : eOf c n sc (.SetComp elt gs scope q) = .bad := by cases n <;> rfl
    rw [z]
    exact asg_none bad_ev
  | _ => exact plain rfl
end
end PI
set_option Elab.async false
set_option linter.all false
set_option maxRecDepth 100000
set_option maxHeartbeats 16000000
/-! PI, part AH: statements by the translator are sound. -/
namespace PI
open PySem PySem.Spec PyProof.Rows L2
section
variable {c : Tc} {X : Cx} {sc : Scope} {W : WS} {F : Cf} {n : Nat} {m : Bool} {De : Ends} {σ : L2.St} {H : Hp}
/-! ### what a clause hands back -/
theorem constD_pe {x : Expr} {d : D} (h : constD x = some d) (X' : Cx) : PE X' x (tE X'.w X'.K (evE F (.c d)) W) ∧ isStar x = false := by
  cases x with
  | Constant v k p =>
    cases v with
    | int i => cases h; exact ⟨pe_const pe_int fun _ _ => .int i, rfl⟩
    | bool b => cases h; exact ⟨pe_const pe_bl fun _ _ => .bl b, rfl⟩
    | none => cases h; exact ⟨pe_const pe_non fun _ _ => .non, rfl⟩
    | str s => cases h; exact ⟨pe_const pe_str fun _ _ => .str s, rfl⟩
    | _ => cases h
  | _ => cases h
theorem constEs_pa : ∀ {es : List Expr} {l : Es} (_ : constEs es = some l) (X' : Cx), PA X' es (tA X'.w X'.K (evEs F l) W)
  | [], l, h, X' => by
    have e : some Es.nil = some l := h
    cases e
    exact pa_nilD
  | x :: r, l, h, X' => by
    have e : (match constD x, constEs r with
      | some d, some es => some (Es.cons (.c d) es)
      | _, _ => none) = some l := h
    cases e1 : constD x with
    | none => rw [e1] at e; cases e
    | some d => cases e2 : constEs r with
      | none => rw [e1, e2] at e; cases e
      | some l2 =>
        rw [e1, e2] at e
        cases e
        obtain ⟨p1, p2⟩ := constD_pe (F := F) (W := W) e1 X'
        exact (pa_cons p1 (constEs_pa e2 X') (star_cons p2 r X'.env)).imp fun σ H Q q => tA_cons q
theorem constE_pe {x : Expr} {b : E} (h : constE c x = some b) (X' : Cx) : PE X' x (tE X'.w X'.K (evE F b) W) := by
  have cd : (constD x).map E.c = some b → PE X' x (tE X'.w X'.K (evE F b) W) := fun h => by
    obtain ⟨d, e, rfl⟩ := Option.map_eq_some_iff.mp h
    exact (constD_pe e X').1
  cases x with
  | List es p =>
    obtain ⟨l, e, rfl⟩ := Option.map_eq_some_iff.mp (show (constEs es).map (E.lst (c.m p)) = some b from h)
    refine (pe_lst (constEs_pa (F := F) (W := W) e X')).imp fun σ H Q q => ?_
    obtain ⟨ρ, st, mu, E, R, q⟩ := q
    rw [evE] at q
    refine ⟨ρ, st, mu, E, R, run_mono (run_bind q) fun l st1 mu1 H1 x1 R1 q vs hv => ?_⟩
    obtain ⟨h1, h2⟩ := run_newL q R1 hv
    exact ⟨by rw [hv.length]; exact h1, h2⟩
  | _ => exact cd h
theorem constEs_env : ∀ {es : List Expr} {l : Es} (_ : constEs es = some l) (ρ ρ' : Env), evEs F l ρ = evEs F l ρ'
  | [], l, h, ρ, ρ' => by
    have e : some Es.nil = some l := h
    cases e
    rw [evEs, evEs]
  | x :: r, l, h, ρ, ρ' => by
    have e : (match constD x, constEs r with
      | some d, some es => some (Es.cons (.c d) es)
      | _, _ => none) = some l := h
    cases e1 : constD x with
    | none => rw [e1] at e; cases e
    | some d => cases e2 : constEs r with
      | none => rw [e1, e2] at e; cases e
      | some l2 =>
        rw [e1, e2] at e
        cases e
        rw [evEs, evEs, constEs_env e2 ρ ρ', evE, evE]
theorem constE_env {x : Expr} {b : E} (h : constE c x = some b) (ρ ρ' : Env) : evE F b ρ = evE F b ρ' := by
  have cd : (constD x).map E.c = some b → evE F b ρ = evE F b ρ' := fun h => by
    obtain ⟨d, e, rfl⟩ := Option.map_eq_some_iff.mp h
    rw [evE, evE]
  cases x with
  | List es p =>
    obtain ⟨l, e, rfl⟩ := Option.map_eq_some_iff.mp (show (constEs es).map (E.lst (c.m p)) = some b from h)
    rw [evE, evE, constEs_env e ρ ρ']
  | _ => exact cd h
/-- an answer that no exception may be -/
theorem run_noErr {α : Type} {w : World} {K : PySem.W.Frag} {x : M α} {mu : Mu} {st : Store} {W W' : WD} {Q : α → Store → Mu → Hp → Prop} (h : run w K (noErr x st) mu H W Q) : run w K (x st) mu H W' Q := by
  unfold noErr at h
  cases e : x st with
  | ok a st' => rw [e] at h; exact h
  | err c as st' => rw [e] at h; exact h.elim
  | bad => rw [e] at h; exact h.elim
theorem REs.none_at {w : World} {K : PySem.W.Frag} {mu : Mu} {ρ : Env} (E : REs w K mu H ρ σ) (i : Nat) (x : Option V) : REs w K mu H (ρ.set i none) (σ.set i x) := by
  refine ⟨by simp [E.len], fun j d e => ?_⟩
  by_cases q : i = j
  · subst q
    by_cases hl : i < ρ.length
    · rw [List.getElem?_set_self hl] at e; cases e
    · rw [List.getElem?_eq_none (by simpa using hl)] at e; cases e
  · rw [List.getElem?_set_ne q] at e
    obtain ⟨v, e1, e2⟩ := E.rel j d e
    exact ⟨v, by rw [List.getElem?_set_ne q]; exact e1, e2⟩
/-- the clauses by the interpreter's -/
inductive HsR (c : Tc) (sc : Scope) : List ExceptHandler → Hs → Prop
  | nil : HsR c sc [] .nil
  | cons {x : Str} {p p2 p3 : Pos} {nm : Option Str} {i : Option Nat} {e : Expr} {b : E} {r : List ExceptHandler} {l : Hs} (hk : okName x = true) (hg : isGl sc x = true) (he : c.exc.contains x = true) (hb : constE c e = some b)
      (hn : (nm = none ∧ i = none) ∨ (∃ y j, nm = some y ∧ i = some j ∧ sc.names.lookup y = some .local ∧ slot c.N y = some j)) (h : HsR c sc r l) : HsR c sc (.ExceptHandler (some (.Name x p)) nm [.Return (some e) p2] p3 :: r) (.cons x i b l)
theorem hsOf_is : ∀ {n : Nat} {hs : List ExceptHandler} {l : Hs}, hsOf c sc n hs = some l → HsR c sc hs l
  | 0, hs, l, h => by unfold hsOf at h; cases h
  | n + 1, hs, l, h => by
    unfold hsOf at h
    split at h
    · cases h
    · cases h; exact .nil
    · rename_i n' x p nm e p2 p3 r heq
      obtain rfl : n = n' := Nat.succ.inj heq
      split at h
      · rename_i g
        split at h
        · rename_i b hb
          split at h
          · obtain ⟨l', e, rfl⟩ := Option.map_eq_some_iff.mp h
            exact .cons g.1 g.2.1 g.2.2 hb (.inl ⟨rfl, rfl⟩) (hsOf_is e)
          · rename_i y
            split at h
            · rename_i hl
              split at h
              · rename_i j hj
                obtain ⟨l', e, rfl⟩ := Option.map_eq_some_iff.mp h
                exact .cons g.1 g.2.1 g.2.2 hb (.inr ⟨y, j, rfl, rfl, hl, hj⟩) (hsOf_is e)
              · cases h
            · cases h
        · cases h
      · cases h
    · cases h
def clsOf (X : Cx) (F : Cf) : Hs → List (Value × Option Nat × Sui)
  | .nil => []
  | .cons h i b r => (.ref (He.ga X.K h), i, fun _ _ _ => tRet (tE X.w X.K (evE F b) noWS)) :: clsOf X F r
theorem hds_of (C : SCtx c X sc W F) {hs : List ExceptHandler} {l : Hs} (h : HsR c sc hs l) : HdsM X hs (clsOf X F l) := by
  induction h with
  | nil => exact .nil
  | @cons x p p2 p3 nm i e b r l hk hg he hb hn h ih =>
    have hc : Names X x (.ref (He.ga X.K x)) := ⟨gl_of C.toCtx hg, (okName_d hk).1, .inl (C.exc x he).mg⟩
    rcases hn with ⟨rfl, rfl⟩ | ⟨y, j, rfl, rfl, hl, hj⟩
    · exact .plain hc (fun a oe cls d pn => pss_one (ps_ret (constE_pe hb (X.suite a ((a, oe) :: pn))))) ih
    · exact .named hc (by rw [C.N]; exact slot_get hj) (by show X.env.scope.names.lookup y = _; rw [C.sc]; exact hl) (fun a oe cls d pn => pss_one (ps_ret (constE_pe hb (X.suite a ((a, oe) :: pn))))) ih
abbrev woOf (X : Cx) (W : WS) : WX := fun cls d σ H => ∃ c as st mu, XR X.K c as cls d ∧ RSt X.w X.K mu H st ∧ W σ c as st mu H
theorem wAny_of (C : SCtx c X sc W F) {hs : List ExceptHandler} {l : Hs} (h : HsR c sc hs l) : ∀ {ρ : Env} {st : Store} {mu : Mu} {H : Hp} {σ : L2.St} {cn : Str} {as : List D} {cls : Value} {d : Option Addr}, XR X.K cn as cls d → REs X.w X.K mu H ρ σ → RSt X.w X.K mu H st → srun X.w X.K (evHs F l cn as ρ st) mu H W De → wAny X.K (woOf X W) De (clsOf X F l) cls d σ H := by
  induction h with
  | nil =>
    intro ρ st mu H σ cn as cls d x E R q
    rw [evHs] at q
    exact ⟨cn, as, st, mu, x, R, q mu H σ .refl R E⟩
  | @cons x p p2 p3 nm i e b r l hk hg he hb hn h ih =>
    intro ρ st mu H σ cn as cls d xr E R q
    rw [evHs] at q
    cases eb : F.sub cn x with
    | none => rw [eb] at q; exact q.elim
    | some k =>
      rw [eb] at q
      obtain ⟨rfl, x2, x3⟩ := id xr
      have ex := C.sub cn x k eb
      have go : k = true → ∀ (ρ2 : Env) (σ2 : L2.St), REs X.w X.K mu H ρ2 σ2 → tE X.w X.K (evE F b) noWS σ2 H De.rt := fun hk ρ2 σ2 E2 => by
        subst hk
        refine ⟨ρ2, st, mu, E2, R, ?_⟩
        rw [constE_env hb ρ2 ρ]
        exact run_mono (run_noErr (run_ofM q E)) fun z st1 mu1 H1 x1 R1 q v hv => q mu1 H1 v .refl R1 hv
      rcases hn with ⟨rfl, rfl⟩ | ⟨y, j, rfl, rfl, hl, hj⟩
      · refine ⟨k, ex, fun hk a _ => go hk ρ σ E, fun hk => ?_⟩
        subst hk
        exact ih xr E R q
      · refine ⟨k, ex, fun hk a _ => go hk (ρ.set j none) _ (E.none_at j _), fun hk => ?_⟩
        subst hk
        exact ih xr E R q
/-- try .. except .. -/
theorem psD_try (C : SCtx c X sc W F) {b : List Stmt} {h₀ : ExceptHandler} {hs : List ExceptHandler} {l : Hs} {bs : Ss} {pos : Pos} (h : HsR c sc (h₀ :: hs) l) (ih : ∀ {X : Cx} {W : WS}, SCtx c X sc W F → PSs X b (tSs X F bs W)) : PS X (.Try b (h₀ :: hs) [] [] pos) (tS X.w X.K (evS F (.try_ bs l)) W) := by
  refine (ps_try_any (tb := fun Wx D σ H => ∃ Wb : WS, (∀ σ c as st mu H cls d, XR X.K c as cls d → RSt X.w X.K mu H st → Wb σ c as st mu H → Wx cls d σ H) ∧ tSs X F bs Wb D σ H) (Wo := woOf X W) C.stk C.frame C.toCtx.nd' C.tk (fun Wx pn xe tk hp => ⟨fun pins s σ H D I q => ?_⟩) (hds_of C h)).imp fun D σ H q => ?_
  · obtain ⟨Wb, imp, q⟩ := q
    refine (ih (C.try_ (W' := Wb) (tk.imp fun cls d σ H w => ?_) hp)).run pins s σ H D I q
    obtain ⟨c, as, st, mu, x, R, w⟩ := w
    exact imp σ c as st mu H cls d x R w
  · obtain ⟨ρ, st, mu, E, R, q⟩ := q
    rw [evS] at q
    refine ⟨fun σ' c as st mu H => ∃ ρ', REs X.w X.K mu H ρ' σ' ∧ srun X.w X.K (evHs F l c as ρ' st) mu H W D, fun σ c as st mu H cls d x R w => ?_, ρ, st, mu, E, R, ?_⟩
    · obtain ⟨ρ', E', w⟩ := w
      exact wAny_of C h x E' R w
    · cases e : evSs F bs ρ st with
      | ok f ρ' st' => 
        rw [e] at q
        cases f with
        | nx => exact q
        | rt d => exact q
      | err cn as ρ' st' =>
        rw [e] at q
        exact fun mu' H' σ' y R' E' => ⟨ρ', E', srun_ext q y⟩
      | bad => rw [e] at q; exact q.elim
theorem ipD_ok {op : Operator} {o : Op2} (h : opOf op = some o) : PIp X op (ipD X (augF o)) := by
  intro pins s σ H x y v u Q I rx ry q
  obtain ⟨mu, st, d, e, W, hd, he, R, ⟨i, j, rfl, rfl⟩, q⟩ := q
  cases hd
  cases he
  cases op with
  | Add => cases h; exact ip_add pins s σ H _ _ v u Q I rx ry ⟨i, j, rfl, rfl, run_pure q R _ (.int _)⟩
  | Sub => cases h; exact ip_sub pins s σ H _ _ v u Q I rx ry ⟨i, j, rfl, rfl, run_pure q R _ (.int _)⟩
  | _ => first | (cases h; exact q.elim) | cases h
theorem not_swap {t e : Expr} {T : T} {env : PySem.Env} (et : tOf c sc n t = some T) (h : ∀ ts k p es k2 p2, t = .Tuple ts k p → e = .Tuple es k2 p2 → False) : swappedStores [t] e env = pure none := by
  cases t <;> first
    | rfl
    | (cases e <;> first | rfl | exact (h _ _ _ _ _ _ rfl rfl).elim)
    | (cases n <;> cases et)
end
end PI
set_option Elab.async false
set_option linter.all false
set_option maxRecDepth 100000
set_option maxHeartbeats 16000000
/-! PI, part AI: statements by the translator are sound, all. -/
namespace PI
open PySem PySem.Spec PyProof.Rows L2
section
variable {c : Tc} {X : Cx} {sc : Scope} {W : WS} {F : Cf} {n : Nat}
theorem exp_swap {e : Expr} (h : isCompE e = false) (l : Nat) (env : PySem.Env) : swapsWith e none l env = pure false := by
  cases e <;> first | rfl | cases h
theorem sub_swap {e o i : Expr} {p : Pos} (l : Nat) (env : PySem.Env) : swapsWithSole [.Subscript o i p] e l env = pure false := by
  cases e <;> rfl
theorem sub_pairs {e o i : Expr} {p : Pos} (env : PySem.Env) : swappedStores [.Subscript o i p] e env = pure none := by
  cases e <;> rfl
structure SSound (c : Tc) (F : Cf) (sc : Scope) (n : Nat) : Prop where
  ps : ∀ {X : Cx} {W : WS} (x : Stmt), SCtx c X sc W F → PS X x (tS X.w X.K (evS F (sOf c sc n x)) W)
  pss : ∀ {X : Cx} {W : WS} (l : List Stmt), SCtx c X sc W F → PSs X l (tSs X F (ssOf c sc n l) W)
theorem ss_bad {l : List Stmt} {r : Ss} : PSs X l (tSs X F (.cons .bad r) W) := ⟨fun _ _ _ _ _ _ q => by
  obtain ⟨ρ, st, mu, _, _, q⟩ := q
  rw [evSs, evS] at q
  exact q.elim⟩
theorem ps_succ (I : SSound c F sc n) (C : SCtx c X sc W F) (x : Stmt) : PS X x (tS X.w X.K (evS F (sOf c sc (n + 1) x)) W) := by
  have S := sound c F n
  have C0 := C.toCtx
  unfold sOf
  split
  · exact ps_pass.imp fun D σ H h => by
      obtain ⟨ρ, st, mu, E, R, h⟩ := h
      rw [evS] at h
      exact h mu H σ .refl R E
  · exact (ps_ret (S.pe _ C0)).imp fun D σ H h => tS_ret h
  · exact ps_retN.imp fun D σ H h => by
      obtain ⟨ρ, st, mu, E, R, h⟩ := h
      rw [evS, evE] at h
      exact h mu H .non .refl R .non
  · split
    · exact ps_bad
    · rename_i e p h
      exact (ps_expr (S.pe _ C0) (exp_swap (Bool.eq_false_iff.mpr h) _ _)).imp fun D σ H h => tS_expr h
  · split
    · rename_i h
      split
      · rename_i t et
        exact psD_asg C et (swap_zero (sc := sc) C.kind C.sc h)
      · exact ps_bad
    · rename_i h
      split
      · rename_i t et
        exact psD_par C.N C.nd C.calm C.kind C.sc h et (S.pa _ C0)
      · exact ps_bad
    · exact ps_bad
  · rename_i a i p e p2
    split
    · exact ps_bad
    · rename_i hs
      exact (ps_asg (S.pe e C0) (pg_sub (S.pe a C0) (S.pe i C0) (setD C.u2) (fun v => by cases i <;> first | rfl | exact absurd rfl hs)) (sub_swap _ _) (sub_pairs _)).imp fun D σ H h => tS_setix h
  · rename_i t e p h1 h2
    split
    · rename_i T et
      exact psD_asg C et (not_swap et fun ts k p' es k2 p2 e1 e2 => h1 ts k p' es k2 p2 e2 e1)
    · exact ps_bad
  · split
    · rename_i hl
      split
      · rename_i i o hi ho
        obtain ⟨l1, l2⟩ := C.asg _ hl
        exact (ps_aug C0.nd' (by rw [C.N]; exact slot_get hi) l1 (S.pe _ C0) (ipD_ok ho) l2).imp fun D σ H h => tS_aug h
      · exact ps_bad
    · exact ps_bad
  · exact (ps_if (S.pt _ C0) (I.pss _ C) (I.pss _ C)).imp fun D σ H h => tS_if h
  · rename_i tg it b p
    split
    · rename_i t et
      cases g : isSetE it with
      | true =>
        refine ps_none fun ρ st => ?_
        rw [evS]
        exact fv_ofM_bad (it_set g n ρ st)
      | false => exact (ps_for C.hp C.calm (S.pi tg it C0) (tg_st C et).1 (I.pss b C) (fold_plain g X.env)).imp fun D σ H h => tS_for h
    · exact ps_bad
  · exact (ps_while C.hp (S.pt _ C0) (I.pss _ C)).imp fun D σ H h => tS_while h
  · split
    · rename_i h
      obtain ⟨h1, h2, h3, h4⟩ := h
      rename_i x p as p2 p3
      cases as with
      | nil => exact psD_raise C.tk C.calm (C.exc x h3) (gl_of C0 h2) (okName_d h1).1
      | cons _ _ => cases h4
    · exact ps_bad
  · split
    · rename_i l e
      exact psD_try C (hsOf_is e) fun C' => I.pss _ C'
    · exact ps_bad
  · exact ps_bad
theorem pss_succ (I : SSound c F sc n) (C : SCtx c X sc W F) (l : List Stmt) : PSs X l (tSs X F (ssOf c sc (n + 1) l) W) := by
  cases l with
  | nil =>
    have e : ssOf c sc (n + 1) [] = .nil := by unfold ssOf; rfl
    rw [e]
    exact pss_nil.imp fun D σ H h => tSs_nil h
  | cons x r =>
    have e : ssOf c sc (n + 1) (x :: r) = .cons (sOf c sc n x) (ssOf c sc n r) := by rw [ssOf]
    rw [e]
    exact (pss_cons (I.ps x C) (I.pss r C)).imp fun D σ H h => tSs_cons h
theorem ssound (c : Tc) (F : Cf) (sc : Scope) : ∀ n, SSound c F sc n
  | 0 => ⟨fun x C => by
      have e : sOf c sc 0 x = .bad := by unfold sOf; rfl
      rw [e]; exact ps_bad, fun l C => by
      have e : ssOf c sc 0 l = .cons .bad .nil := by unfold ssOf; rfl
      rw [e]; exact ss_bad⟩
  | n + 1 =>
    have I := ssound c F sc n
    ⟨fun x C => ps_succ I C x, fun l C => pss_succ I C l⟩
end
end PI
set_option Elab.async false
set_option linter.all false
set_option maxRecDepth 100000
set_option maxHeartbeats 8000000
/-! PI, part AJ: behind a call: what was made within is given up. -/
namespace PI
open PySem PySem.Spec PyProof.Rows L2
section
variable {w : World} {K : PySem.W.Frag} {mu mu' mu2 : Mu} {H H' : Hp} {st st' : Store} {n : Nat} {g : Nat → Option D}
mutual
theorem Den.under : ∀ {v : V} {d : D}, Den w K mu H v d → D.under mu.pl.length d = true
  | _, _, .non => rfl
  | _, _, .bl b => rfl
  | _, _, .int i => rfl
  | _, _, .str s => rfl
  | _, _, .tup h r => by unfold D.under; exact Dens.under r
  | _, _, .lst h n r => by unfold D.under; exact Dens.under r
  | _, _, .scr h => rfl
  | _, _, .dct h n ok nd r q => by
    unfold D.under
    rw [Dens.under r, Dens.under q]
    rfl
  | _, _, .ref h => by
    unfold D.under
    exact decide_eq_true (List.getElem?_eq_some_iff.mp h).1
theorem Dens.under : ∀ {xs : List V} {l : List D}, Dens w K mu H xs l → D.underL mu.pl.length l = true
  | _, _, .nil => rfl
  | _, _, .cons h r => by
    unfold D.underL
    rw [Den.under h, Dens.under r]
    rfl
end
mutual
theorem subD_under (g : Nat → Option D) : ∀ {d : D}, D.under n d = true → subD n g d = some d
  | .non, _ => by unfold subD; rfl
  | .bl b, _ => by unfold subD; rfl
  | .int i, _ => by unfold subD; rfl
  | .str s, _ => by unfold subD; rfl
  | .scr s, _ => by unfold subD; rfl
  | .ref k, h => by
    unfold D.under at h
    unfold subD
    rw [if_pos (of_decide_eq_true h)]
  | .tup l, h => by
    unfold D.under at h
    unfold subD
    rw [subL_under g h]
  | .lst l, h => by
    unfold D.under at h
    unfold subD
    rw [subL_under g h]
  | .dct a b, h => by
    unfold D.under at h
    obtain ⟨h1, h2⟩ := Bool.and_eq_true_iff.mp h
    unfold subD
    rw [subL_under g h1, subL_under g h2]
theorem subL_under (g : Nat → Option D) : ∀ {l : List D}, D.underL n l = true → subL n g l = some l
  | [], _ => by unfold subL; rfl
  | d :: r, h => by
    unfold D.underL at h
    obtain ⟨h1, h2⟩ := Bool.and_eq_true_iff.mp h
    unfold subL
    rw [subD_under g h1, subL_under g h2]
end
mutual
theorem keyN_under : ∀ (d : D) (m : Nat), d.keyN m = true → D.under n d = true
  | .non, _, _ => rfl
  | .bl b, _, _ => rfl
  | .int i, _, _ => rfl
  | .str s, _, _ => rfl
  | .scr s, _, h => rfl
  | .ref k, m, h => by unfold D.keyN at h; cases h
  | .lst k, m, h => by unfold D.keyN at h; cases h
  | .dct k v, m, h => by unfold D.keyN at h; cases h
  | .tup l, 0, h => by unfold D.keyN at h; cases h
  | .tup l, m + 1, h => by
    unfold D.keyN at h
    unfold D.under
    exact keyL_under l m h
theorem keyL_under : ∀ (l : List D) (m : Nat), D.keyL l m = true → D.underL n l = true
  | [], _, _ => rfl
  | d :: r, m, h => by
    unfold D.keyL at h
    obtain ⟨h1, h2⟩ := Bool.and_eq_true_iff.mp h
    unfold D.underL
    rw [keyN_under d m h1, keyL_under r m h2]
    rfl
end
theorem leaf_under {d : D} (h : d.isLeaf = true) : D.under n d = true := by
  cases d <;> first | rfl | cases h
theorem tk_under {d : D} (h : d.isTK = true) : D.under n d = true := by
  cases d with
  | tup l =>
    unfold D.under
    exact keyL_under l 7 h
  | _ => cases h
theorem all_under {p : D → Bool} (hp : ∀ d, p d = true → D.under n d = true) : ∀ {l : List D}, l.all p = true → D.underL n l = true
  | [], _ => rfl
  | d :: r, h => by
    rw [List.all_cons] at h
    obtain ⟨h1, h2⟩ := Bool.and_eq_true_iff.mp h
    unfold D.underL
    rw [hp d h1, all_under hp h2]
    rfl
theorem keys_under {ks : List D} (h : okKeys ks = true) : D.underL n ks = true := by
  unfold okKeys at h
  rcases Bool.or_eq_true_iff.mp h with h | h
  · exact all_under (fun d => leaf_under) h
  · exact all_under (fun d => tk_under) h
/-- the new places among the old: the elder ones as they were, nothing new but what is named -/
structure Less (mu' mu2 : Mu) (n : Nat) : Prop where
  pl : ∀ k, k < n → mu2.pl[k]? = mu'.pl[k]?
  no : ∀ a, mu'.no a → mu2.no a
mutual
theorem Den.sub (L : Less mu' mu2 n) (G : ∀ k a d, n ≤ k → mu'.pl[k]? = some a → g k = some d → Den w K mu2 H' (.ref a) d) : ∀ {v : V} {d d2 : D}, Den w K mu' H' v d → subD n g d = some d2 → Den w K mu2 H' v d2
  | _, _, d2, .non, e => by unfold subD at e; cases e; exact .non
  | _, _, d2, .bl b, e => by unfold subD at e; cases e; exact .bl b
  | _, _, d2, .int i, e => by unfold subD at e; cases e; exact .int i
  | _, _, d2, .str s, e => by unfold subD at e; cases e; exact .str s
  | _, _, d2, .scr h, e => by
    unfold subD at e
    cases e
    refine .scr ?_
    rcases h with ⟨h, q⟩ | h
    · exact .inl ⟨h, L.no _ q⟩
    · exact .inr h
  | _, _, d2, .tup (l := l) h r, e => by
    unfold subD at e
    cases e1 : subL n g l with
    | none => rw [e1] at e; cases e
    | some l2 =>
      rw [e1] at e
      cases e
      refine .tup ?_ (Dens.sub L G r e1)
      rcases h with ⟨h, q⟩ | h
      · exact .inl ⟨h, L.no _ q⟩
      · exact .inr h
  | _, _, d2, .lst (l := l) h q r, e => by
    unfold subD at e
    cases e1 : subL n g l with
    | none => rw [e1] at e; cases e
    | some l2 =>
      rw [e1] at e
      cases e
      exact .lst h (L.no _ q) (Dens.sub L G r e1)
  | _, _, d2, .dct (ks := ks) (vs := vs) h q ok nd r s, e => by
    unfold subD at e
    rw [subL_under g (keys_under ok)] at e
    cases e1 : subL n g vs with
    | none => rw [e1] at e; cases e
    | some l2 =>
      rw [e1] at e
      cases e
      exact .dct h (L.no _ q) ok nd (Dens.sub L G r (subL_under g (keys_under ok))) (Dens.sub L G s e1)
  | _, _, d2, .ref (n := k) h, e => by
    unfold subD at e
    by_cases hk : k < n
    · rw [if_pos hk] at e
      cases e
      exact .ref (by rw [L.pl k hk]; exact h)
    · rw [if_neg hk] at e
      exact G k _ d2 (Nat.le_of_not_lt hk) h e
theorem Dens.sub (L : Less mu' mu2 n) (G : ∀ k a d, n ≤ k → mu'.pl[k]? = some a → g k = some d → Den w K mu2 H' (.ref a) d) : ∀ {xs : List V} {l l2 : List D}, Dens w K mu' H' xs l → subL n g l = some l2 → Dens w K mu2 H' xs l2
  | _, _, l2, .nil, e => by unfold subL at e; cases e; exact .nil
  | _, _, l2, .cons (d := d) (l := l) h r, e => by
    unfold subL at e
    cases e1 : subD n g d with
    | none => rw [e1] at e; cases e
    | some d3 => cases e2 : subL n g l with
      | none => rw [e1, e2] at e; cases e
      | some l3 =>
        rw [e1, e2] at e
        cases e
        exact .cons (Den.sub L G h e1) (Dens.sub L G r e2)
end
theorem Dens.keep_under (L : Less mu' mu2 n) {xs : List V} {l : List D} (h : Dens w K mu' H' xs l) (u : D.underL n l = true) : Dens w K mu2 H' xs l :=
  h.sub (g := fun _ => none) L (fun k a d _ _ e => by cases e) (subL_under _ u)
/-- what stands at a place of the callee, taken along -/
theorem frz_den (L : Less mu' mu2 n) (R' : RSt w K mu' H' st') {ex : Nat} (hex : ∀ k a, n ≤ k → k ≠ ex → mu'.pl[k]? = some a → mu2.no a) : ∀ (f k : Nat) (a : Addr) (d : D), n ≤ k → mu'.pl[k]? = some a → frzAt n st' ex f k = some d → Den w K mu2 H' (.ref a) d
  | 0, k, a, d, _, _, e => by unfold frzAt at e; cases e
  | f + 1, k, a, d, hk, ha, e => by
    unfold frzAt at e
    by_cases hx : k = ex
    · rw [if_pos hx] at e; cases e
    · rw [if_neg hx] at e
      have G := fun k a d => frz_den L R' hex f k a d
      cases e1 : st'[k]? with
      | none => rw [e1] at e; cases e
      | some o => cases o with
        | lst l =>
          rw [e1] at e
          dsimp only at e
          obtain ⟨xs, h1, h2⟩ := R'.at ha e1
          cases e2 : subL n (frzAt n st' ex f) l with
          | none => rw [e2] at e; cases e
          | some l2 =>
            rw [e2] at e
            cases e
            exact .lst h1 (hex k a hk hx ha) (h2.sub L G e2)
        | dct ks vs =>
          rw [e1] at e
          dsimp only at e
          obtain ⟨kv, vv, h1, ok, nd, h2, h3⟩ := R'.at ha e1
          rw [subL_under _ (keys_under ok)] at e
          cases e2 : subL n (frzAt n st' ex f) vs with
          | none => rw [e2] at e; cases e
          | some l2 =>
            rw [e2] at e
            cases e
            exact .dct h1 (hex k a hk hx ha) ok nd (h2.sub L G (subL_under _ (keys_under ok))) (h3.sub L G e2)
/-- the elder places, seen from without -/
theorem old_ob (x : Ext mu H mu' H') (R : RSt w K mu H st) (R' : RSt w K mu' H' st') (L : Less mu' mu2 st.length) (ho : oldOk st st' = true) {i : Nat} {o : O} (hi : i < st.length) (e : st'[i]? = some o) : ∃ a, mu.pl[i]? = some a ∧ ObR w K mu2 H' a o := by
  obtain ⟨a, e1, ob⟩ := R'.ob i o e
  have hi2 : i < mu.pl.length := by rw [R.len]; exact hi
  have ea : mu.pl[i]? = some a := by
    obtain ⟨r, h, _⟩ := x.w.pre
    rw [h, List.getElem?_append_left hi2] at e1
    exact e1
  refine ⟨a, ea, ?_⟩
  have und : O.under st.length o = true := by
    have q := List.all_eq_true.mp ho i (List.mem_range.mpr hi)
    rw [e] at q
    rcases Bool.or_eq_true_iff.mp q with q | q
    · have e2 : st[i]? = some o := (of_decide_eq_true q).symm
      have ob0 := R.at ea e2
      rw [← R.len]
      cases o with
      | lst l =>
        obtain ⟨xs, _, h⟩ := ob0
        exact h.under
      | dct ks vs =>
        obtain ⟨kv, vv, _, _, _, h1, h2⟩ := ob0
        show (D.underL _ ks && D.underL _ vs) = true
        rw [h1.under, h2.under]
        rfl
    · exact q
  cases o with
  | lst l =>
    obtain ⟨xs, h1, h2⟩ := ob
    exact ⟨xs, h1, h2.keep_under L und⟩
  | dct ks vs =>
    obtain ⟨kv, vv, h1, ok, nd, h2, h3⟩ := ob
    obtain ⟨u1, u2⟩ := Bool.and_eq_true_iff.mp (show (D.underL st.length ks && D.underL st.length vs) = true from und)
    exact ⟨kv, vv, h1, ok, nd, h2.keep_under L u1, h3.keep_under L u2⟩
theorem hid_not (x : Ext mu H mu' H') (R' : RSt w K mu' H' st') {a : Addr} (h : a ∈ mu'.pl) : a ∉ mu.hid := fun z => (R'.hid a (x.w.old a z)).1 h
theorem less_old (x : Ext mu H mu' H') (R : RSt w K mu H st) : Less mu' mu st.length := by
  obtain ⟨r, h, _⟩ := x.w.pre
  refine ⟨fun k hk => ?_, fun a na => ⟨fun z => na.1 (by rw [h]; exact List.mem_append_left _ z), fun z => na.2 (x.w.old a z)⟩⟩
  rw [h, List.getElem?_append_left (by rw [R.len]; exact hk)]
theorem far_old (x : Ext mu H mu' H') (R : RSt w K mu H st) (R' : RSt w K mu' H' st') {k : Nat} {a : Addr} (hk : st.length ≤ k) (ha : mu'.pl[k]? = some a) : mu.no a ∧ H a = none := by
  obtain ⟨r, h, hr⟩ := x.w.pre
  have hm : a ∈ mu'.pl := List.mem_of_getElem? ha
  rw [h, List.getElem?_append_right (by rw [R.len]; exact hk)] at ha
  have hr' := List.mem_of_getElem? ha
  refine ⟨⟨fun z => ?_, hid_not x R' hm⟩, hr a hr'⟩
  have nd := R'.nd
  rw [h] at nd
  exact (List.nodup_append.mp nd).2.2 a z a hr' rfl
/-- nothing new is seen from without -/
theorem old_st (x : Ext mu H mu' H') (R : RSt w K mu H st) (R' : RSt w K mu' H' st') (ho : oldOk st st' = true) (hl : st.length ≤ st'.length) : Ext mu H mu H' ∧ RSt w K mu H' (st'.take st.length) := by
  refine ⟨⟨⟨⟨[], by simp, fun _ h => nomatch h⟩, fun _ h => h, fun _ h => .inl h, x.w.keep, x.w.there⟩, x.hid⟩, ⟨?_, R.nd, fun i o e => ?_, fun a h => ⟨(R.hid a h).1, ?_⟩⟩⟩
  · rw [R.len, List.length_take, Nat.min_eq_left hl]
  · have hi : i < st.length := by
      have := (List.getElem?_eq_some_iff.mp e).1
      rw [List.length_take] at this
      omega
    rw [List.getElem?_take_of_lt hi] at e
    exact old_ob x R R' (less_old x R) ho hi e
  · obtain ⟨u, e⟩ := (R.hid a h).2
    exact x.w.there a u e
/-- the thing handed back is a new place -/
theorem push_st (x : Ext mu H mu' H') (R : RSt w K mu H st) (R' : RSt w K mu' H' st') (ho : oldOk st st' = true) (hl : st.length ≤ st'.length) {k : Nat} {a : Addr} (hk : st.length ≤ k) (ha : mu'.pl[k]? = some a) :
    Ext mu H (mu.push a) H' ∧ Less mu' (mu.push a) st.length ∧ (∀ j b, st.length ≤ j → j ≠ k → mu'.pl[j]? = some b → (mu.push a).no b) ∧ ∀ o, ObR w K (mu.push a) H' a o → RSt w K (mu.push a) H' (st'.take st.length ++ [o]) := by
  obtain ⟨na, hn⟩ := far_old x R R' hk ha
  have hm : a ∈ mu'.pl := List.mem_of_getElem? ha
  have L : Less mu' (mu.push a) st.length := by
    have L0 := less_old x R
    refine ⟨fun j hj => ?_, fun b nb => ⟨fun z => ?_, (L0.no b nb).2⟩⟩
    · show (mu.pl ++ [a])[j]? = _
      rw [List.getElem?_append_left (by rw [R.len]; exact hj)]
      exact L0.pl j hj
    · rcases List.mem_append.mp z with z | z
      · exact (L0.no b nb).1 z
      · rw [List.mem_singleton.mp z] at nb
        exact nb.1 hm
  refine ⟨⟨⟨⟨[a], rfl, fun b h => by rw [List.mem_singleton.mp h]; exact hn⟩, fun _ h => h, fun _ h => .inl h, x.w.keep, x.w.there⟩, x.hid⟩, L, fun j b hj hjk hb => ?_, fun o hob => ?_⟩
  · obtain ⟨nb, _⟩ := far_old x R R' hj hb
    refine ⟨fun z => ?_, nb.2⟩
    rcases List.mem_append.mp z with z | z
    · exact nb.1 z
    · rw [List.mem_singleton.mp z] at hb
      exact hjk ((List.getElem?_inj (List.getElem?_eq_some_iff.mp hb).1 R'.nd).mp (hb.trans ha.symm))
  · refine ⟨?_, ?_, fun i u e => ?_, fun b h => ⟨fun z => ?_, ?_⟩⟩
    · show (mu.pl ++ [a]).length = _
      rw [List.length_append, List.length_append, R.len, List.length_take, Nat.min_eq_left hl]
      rfl
    · show (mu.pl ++ [a]).Nodup
      rw [List.nodup_append]
      refine ⟨R.nd, by simp, fun b hb c hc e => ?_⟩
      rw [List.mem_singleton.mp hc] at e
      rw [e] at hb
      exact na.1 hb
    · have hlen : (st'.take st.length).length = st.length := by rw [List.length_take, Nat.min_eq_left hl]
      by_cases hi : i < st.length
      · rw [List.getElem?_append_left (by rw [hlen]; exact hi), List.getElem?_take_of_lt hi] at e
        obtain ⟨b, e1, ob⟩ := old_ob x R R' L ho hi e
        refine ⟨b, ?_, ob⟩
        show (mu.pl ++ [a])[i]? = some b
        rw [List.getElem?_append_left (by rw [R.len]; exact hi)]
        exact e1
      · rw [List.getElem?_append_right (by rw [hlen]; exact Nat.le_of_not_lt hi), hlen] at e
        have hz : i - st.length = 0 := by
          have := (List.getElem?_eq_some_iff.mp e).1
          simp at this
          omega
        rw [hz] at e
        cases e
        refine ⟨a, ?_, hob⟩
        show (mu.pl ++ [a])[i]? = some a
        rw [List.getElem?_append_right (by rw [R.len]; exact Nat.le_of_not_lt hi), R.len, hz]
        rfl
    · rcases List.mem_append.mp z with z | z
      · exact (R.hid b h).1 z
      · rw [List.mem_singleton.mp z] at h
        exact hid_not x R' hm h
    · obtain ⟨u, e⟩ := (R.hid b h).2
      exact x.w.there b u e
theorem run_back {m : Bool} {v : V} {d : D} {W : WD} {Q : VK} (x : Ext mu H mu' H') (R : RSt w K mu H st) (R' : RSt w K mu' H' st') (hd : Den w K mu' H' v d) (q : run w K (back m st st' d) mu H W (QV w K Q)) : Q v H' := by
  unfold back at q
  by_cases hc : oldOk st st' = true ∧ st.length ≤ st'.length
  · rw [if_pos hc] at q
    obtain ⟨ho, hl⟩ := hc
    have gen : run w K (match subD st.length (frzAt st.length st' st'.length deep) d with
        | some d => Res.ok d (st'.take st.length)
        | none => .bad) mu H W (QV w K Q) → Q v H' := fun q => by
      obtain ⟨x2, R2⟩ := old_st x R R' ho hl
      cases e : subD st.length (frzAt st.length st' st'.length deep) d with
      | none => rw [e] at q; exact q.elim
      | some d2 =>
        rw [e] at q
        refine q mu H' x2 R2 v (hd.sub (less_old x R) (fun k a d hk ha ed => frz_den (less_old x R) R' (fun k a hk _ ha => (far_old x R R' hk ha).1) deep k a d hk ha ed) e)
    cases m with
    | false => exact gen (by cases d <;> exact q)
    | true =>
      cases d with
      | ref k =>
        by_cases hk : k < st.length
        · have q : run w K (if k < st.length then Res.ok (D.ref k) (st'.take st.length) else _) mu H W (QV w K Q) := q
          rw [if_pos hk] at q
          obtain ⟨x2, R2⟩ := old_st x R R' ho hl
          refine q mu H' x2 R2 v ?_
          cases hd with
          | ref e => exact .ref (by rw [(less_old x R).pl k hk]; exact e)
        · dsimp only at q
          rw [if_neg hk] at q
          have hk' := Nat.le_of_not_lt hk
          cases hd with
          | @ref a _ ha =>
            obtain ⟨x2, L, far, mk⟩ := push_st x R R' ho hl hk' ha
            have G := fun j b d (hj : st.length ≤ j) (hb : mu'.pl[j]? = some b) (ed : frzAt st.length st' k deep j = some d) => frz_den L R' far deep j b d hj hb ed
            have out : Den w K (mu.push a) H' (.ref a) (.ref st.length) := .ref (by
              show (mu.pl ++ [a])[st.length]? = some a
              rw [List.getElem?_append_right (by rw [R.len]; exact Nat.le_refl _), R.len, Nat.sub_self]
              rfl)
            cases e1 : st'[k]? with
            | none => rw [e1] at q; exact q.elim
            | some o => cases o with
              | lst l =>
                rw [e1] at q
                dsimp only at q
                obtain ⟨xs, h1, h2⟩ := R'.at ha e1
                cases e2 : subL st.length (frzAt st.length st' k deep) l with
                | none => rw [e2] at q; exact q.elim
                | some l2 =>
                  rw [e2] at q
                  exact q (mu.push a) H' x2 (mk (.lst l2) ⟨xs, h1, h2.sub L G e2⟩) _ out
              | dct ks vs =>
                rw [e1] at q
                dsimp only at q
                obtain ⟨kv, vv, h1, ok, nd, h2, h3⟩ := R'.at ha e1
                rw [subL_under _ (keys_under ok)] at q
                cases e2 : subL st.length (frzAt st.length st' k deep) vs with
                | none => rw [e2] at q; exact q.elim
                | some l2 =>
                  rw [e2] at q
                  exact q (mu.push a) H' x2 (mk (.dct ks l2) ⟨kv, vv, h1, ok, nd, h2.sub L G (subL_under _ (keys_under ok)), h3.sub L G e2⟩) _ out
      | _ => exact gen q
  · rw [if_neg hc] at q
    exact q.elim
theorem run_backE {c : Str} {as : List D} {W : WD} {Q : D → Store → Mu → Hp → Prop} (x : Ext mu H mu' H') (R : RSt w K mu H st) (R' : RSt w K mu' H' st') (q : run w K (backE st st' c as) mu H W Q) : as = [] ∧ ∃ st2, RSt w K mu H' st2 ∧ W c [] st2 mu H' := by
  unfold backE at q
  by_cases hc : oldOk st st' = true ∧ st.length ≤ st'.length
  · rw [if_pos hc] at q
    obtain ⟨ho, hl⟩ := hc
    obtain ⟨x2, R2⟩ := old_st x R R' ho hl
    cases as with
    | nil => exact ⟨rfl, _, R2, q mu H' x2 R2⟩
    | cons _ _ => exact q.elim
  · rw [if_neg hc] at q
    exact q.elim
end
end PI
set_option Elab.async false
set_option linter.all false
set_option maxRecDepth 100000
set_option maxHeartbeats 8000000
/-! PI, part AK: the defs of a text keep their promises. -/
namespace PI
open PySem PySem.Spec PyProof.Rows L2
/-- a def of the text -/
structure Ent where
  name : Str
  ps : List Str
  N : List Str
  mu : List (Nat × Nat)
  st : Stmt
/-- the text's defs, its plain things, the built-in names that it leaves alone, its exceptions -/
structure Tab where
  fs : List Ent
  gc : List (Str × D)
  free : List Str
  exc : List Str
def Tab.own (t : Tab) : List (Str × Nat) := t.fs.map fun e => (e.name, e.ps.length)
def Tab.tc (t : Tab) (e : Ent) : Tc := ⟨e.N, t.gc, t.free, t.own, t.exc, e.mu⟩
def Tab.fn (t : Tab) (e : Ent) : Fn := fnOf (t.tc e) e.ps.length e.st
def Tab.at (t : Tab) (f : Str) : Option Ent := t.fs.find? fun e => decide (e.name = f)
def Tab.tb (t : Tab) : Str → Option Fn := fun f => (t.at f).map t.fn
theorem own_at : ∀ {fs : List Ent} {f : Str} {k : Nat}, (fs.map fun e => (e.name, e.ps.length)).lookup f = some k → ∃ e ∈ fs, fs.find? (fun e => decide (e.name = f)) = some e ∧ e.name = f ∧ e.ps.length = k
  | [], f, k, h => by cases h
  | e :: r, f, k, h => by
    rw [List.map_cons, List.lookup_cons] at h
    by_cases q : f = e.name
    · subst q
      rw [beq_self_eq_true] at h
      cases h
      exact ⟨e, List.mem_cons_self, by rw [List.find?_cons, decide_eq_true rfl], rfl, rfl⟩
    · have q1 : (f == e.name) = false := beq_eq_false_iff_ne.mpr q
      rw [q1] at h
      obtain ⟨e', h1, h2, h3, h4⟩ := own_at h
      exact ⟨e', List.mem_cons_of_mem _ h1, by rw [List.find?_cons, decide_eq_false (fun z => q z.symm)]; exact h2, h3, h4⟩
/-- how a def stands -/
structure EntOk (K : PySem.W.Frag) (mg : Str → Option Value) (e : Ent) (fa : Addr) (fd : FuncData) : Prop where
  mg : mg e.name = some (.ref fa)
  keep : PySem.W.keepIn K (.ref fa) = true
  fn : FunD K e.name e.name (defArgs e.st) (defBody e.st) (defScope e.st) [] [] fa fd
  bi : Binds K fd e.ps []
  sc : FnScope e.N e.ps (defScope e.st)
/-- what stands behind the text's top -/
structure ModOk (P : Program) (w : World) (K : PySem.W.Frag) (mg : Str → Option Value) (base : Heap) (t : Tab) (sub : Str → Str → Option Bool) : Prop where
  fn : ∀ e ∈ t.fs, ∃ fa fd, EntOk K mg e fa fd
  gc : ∀ x d, t.gc.lookup x = some d → ∃ v u, mg x = some u ∧ RelV v u ∧ ∀ mu H, Den w K mu H v d
  fr : ∀ x, t.free.contains x = true → mg x = none
  exc : ∀ x, t.exc.contains x = true → mg x = some (.ref (He.ga K x)) ∧ PySem.W.excIn K (He.ga K x) He.veBase "ValueError.__new__" = true ∧ PySem.W.keepIn K (.ref (He.ga K x)) = true ∧ PySem.W.subIn K (.ref (He.ga K x)) (.type "BaseException") = some true ∧ PySem.W.typeIn K (.ref (He.ga K x)) = some (.type "type")
  sub : ∀ a h b, sub a h = some b → PySem.W.exmOne K (.ref (He.ga K a)) (.ref (He.ga K h)) = some b
section
variable {P : Program} {w : World} {K : PySem.W.Frag} {mg : Str → Option Value} {base : Heap} {t : Tab} {sub : Str → Str → Option Bool} {k : Nat}
abbrev Tab.F (t : Tab) (sub : Str → Str → Option Bool) (k : Nat) : Cf := ⟨runF t.tb sub k, sub⟩
theorem runF_zero {tb : Str → Option Fn} {m : Bool} {f : Str} {l : List D} {st : Store} : runF tb sub 0 m f l st = .bad := by unfold runF; rfl
theorem runF_succ {tb : Str → Option Fn} {m : Bool} {f : Str} {l : List D} {st : Store} {fn : Fn} (h : tb f = some fn) : runF tb sub (k + 1) m f l st = if l.length = fn.np ∧ fn.np ≤ fn.nl then (match evSs ⟨runF tb sub k, sub⟩ fn.body (l.map some ++ List.replicate (fn.nl - fn.np) none) st with
      | .ok .nx _ st' => back m st st' .non
      | .ok (.rt d) _ st' => back m st st' d
      | .err c l _ st' => backE st st' c l
      | .bad => .bad) else .bad := by
  rw [runF, h]
  first | done | rfl
theorem runF_none {tb : Str → Option Fn} {m : Bool} {f : Str} {l : List D} {st : Store} (h : tb f = none) : runF tb sub k m f l st = .bad := by
  cases k with
  | zero => exact runF_zero
  | succ k => rw [runF, h]
theorem start_env {N : List Str} {vs : List V} {l : List D} {mu : Mu} {H : Hp} (h : Dens w K mu H vs l) : REs w K mu H (l.map some ++ List.replicate (N.length - l.length) none) (L2.start N vs) := by
  have hl := h.length
  refine ⟨by unfold L2.start; simp [hl], fun i d e => ?_⟩
  by_cases hi : i < l.length
  · rw [List.getElem?_append_left (by simpa using hi), List.getElem?_map] at e
    cases e1 : l[i]? with
    | none => rw [e1] at e; cases e
    | some d' =>
      rw [e1] at e
      cases e
      obtain ⟨v, e2, e3⟩ := h.get e1
      refine ⟨v, ?_, e3⟩
      unfold L2.start
      rw [List.getElem?_append_left (by rw [List.length_map, hl]; exact hi), List.getElem?_map, e2]
      rfl
  · rw [List.getElem?_append_right (by simpa using Nat.le_of_not_lt hi), List.getElem?_replicate] at e
    split at e <;> cases e
theorem fn_ok (M : ModOk P w K mg base t sub) : ∀ (k : Nat) (e : Ent) (_ : e ∈ t.fs) (_ : t.at e.name = some e) (fa : Addr) (fd : FuncData), EntOk K mg e fa fd → FnOk P w K mg base (L2.CX P w) k fa fd e.ps (spF w K (t.F sub k) e.name e.ps.length)
  | 0, e, _, _, fa, fd, O => ⟨fun vs H Q E h => h.1, fun A outer s H args us vs Q E _ _ _ _ h => by
      obtain ⟨_, mu, st, l, m, W, _, _, q, _⟩ := h
      have z : (t.F sub 0).cl m e.name l st = .bad := runF_zero (tb := t.tb) (sub := sub) (m := m) (f := e.name) (l := l) (st := st)
      rw [z] at q
      exact q.elim⟩
  | k + 1, e, he, ha, fa, fd, O => by
    refine FunD.ok (N := e.N) O.fn O.sc (fun vs H Q E h => h.1) fun cdv A outer s H vs Q E hr h => ?_
    obtain ⟨hlen, mu, st, l, m, Wd, hd, R, q, hE⟩ := h
    have htb : t.tb e.name = some (t.fn e) := by unfold Tab.tb; rw [ha]; rfl
    have q : run w K (runF t.tb sub (k + 1) m e.name l st) mu H Wd (QV w K Q) := q
    rw [runF_succ htb] at q
    by_cases hc : l.length = (t.fn e).np ∧ (t.fn e).np ≤ (t.fn e).nl
    · rw [if_pos hc] at q
      have X := cxOf (L2.CX P w) P w K mg base e.N e.name (defScope e.st) fa cdv A outer s H E
      let W : WS := fun _ c as st2 mu2 H2 => Ext mu H mu2 H2 ∧ run w K (backE st st2 c as) mu H Wd (QV w K Q)
      have tk : TakesI (cxOf (L2.CX P w) P w K mg base e.N e.name (defScope e.st) fa cdv A outer s H E) W := by
        refine (takes_of (X := cxOf (L2.CX P w) P w K mg base e.N e.name (defScope e.st) fa cdv A outer s H E) (E := E) rfl rfl rfl rfl).imp fun cls d σ H' z => ?_
        obtain ⟨c, as, st2, mu2, x, R2, y, z⟩ := z
        obtain ⟨z1, st3, R3, z2⟩ := run_backE y R R2 z
        subst z1
        exact hE c [] st3 mu H' cls d z2 R3 x
      have hu := hr.un
      have C : SCtx (t.tc e) (cxOf (L2.CX P w) P w K mg base e.N e.name (defScope e.st) fa cdv A outer s H E) (defScope e.st) W (t.F sub k) :=
        { N := rfl
          nd := O.sc.nd
          sc := rfl
          kind := O.sc.kind
          calm := rfl
          u1 := by
            show (A.deeper _).units + 65 < cLine
            omega
          u2 := by
            show (A.deeper _).units + 1 + 8 < cLine
            omega
          gc := M.gc
          fr := M.fr
          own := fun f np ho => by
            obtain ⟨e', h1, h2, h3, h4⟩ := own_at ho
            subst h3
            subst h4
            obtain ⟨fa', fd', O'⟩ := M.fn e' h1
            refine ⟨fa', fd', e'.ps, k, O'.mg, O'.keep, fn_ok M k e' h1 h2 fa' fd' O', hr, O'.bi, fun m l st hb => ?_⟩
            have htb' : t.tb e'.name = some (t.fn e') := by
              unfold Tab.tb
              have z : t.at e'.name = some e' := h2
              rw [z]; rfl
            have hb : runF t.tb sub k m e'.name l st ≠ .bad := hb
            cases k with
            | zero => exact absurd runF_zero hb
            | succ k =>
              rw [runF_succ htb'] at hb
              by_cases hc : l.length = (t.fn e').np ∧ (t.fn e').np ≤ (t.fn e').nl
              · exact hc.1
              · rw [if_neg hc] at hb
                exact absurd rfl hb
          tk := tk
          hp := passes_of rfl
          asg := fun x hx => by
            refine ⟨?_, .inl rfl⟩
            show (defScope e.st).names.lookup x = some .local ∨ (defScope e.st).names.lookup x = some .cell
            unfold isLoc at hx
            cases z : (defScope e.st).names.lookup x with
            | none => rw [z] at hx; cases hx
            | some k => cases k <;> first | exact .inl rfl | exact .inr rfl | (rw [z] at hx; cases hx)
          stk := rfl
          frame := rfl
          exc := fun x hx => by
            obtain ⟨h1, h2, h3, h4, h5⟩ := M.exc x hx
            exact ⟨h1, h2, h3, h4, h5⟩
          sub := M.sub }
      refine ⟨_, (ssound (t.tc e) (t.F sub k) (defScope e.st) 60).pss (defBody e.st) C, ?_⟩
      have hl2 : l.length = e.ps.length := hc.1
      refine ⟨_, st, mu, start_env (N := e.N) hd, R, ?_⟩
      have q : run w K (match evSs (t.F sub k) (ssOf (t.tc e) (defScope e.st) 60 (defBody e.st)) (l.map some ++ List.replicate (e.N.length - e.ps.length) none) st with
        | .ok .nx _ st' => back m st st' .non
        | .ok (.rt d) _ st' => back m st st' d
        | .err c l _ st' => backE st st' c l
        | .bad => .bad) mu H Wd (QV w K Q) := q
      rw [← hl2] at q
      cases ev : evSs (t.F sub k) (ssOf (t.tc e) (defScope e.st) 60 (defBody e.st)) (l.map some ++ List.replicate (e.N.length - l.length) none) st with
      | ok f ρ st' =>
        rw [ev] at q
        cases f with
        | nx => exact fun mu' H' σ' x R' E' => run_back x R R' .non q
        | rt d => exact fun mu' H' v x R' hv => run_back x R R' hv q
      | err c as ρ st' =>
        rw [ev] at q
        exact fun mu' H' σ' x R' E' => ⟨x, q⟩
      | bad => rw [ev] at q; exact q.elim
    · rw [if_neg hc] at q
      exact q.elim
/-- a def called from without -/
theorem def_ok (M : ModOk P w K mg base t sub) (k : Nat) {f : Str} {e : Ent} (h : t.at f = some e) : ∃ fa fd, EntOk K mg e fa fd ∧ FnOk P w K mg base (L2.CX P w) k fa fd e.ps (spF w K (t.F sub k) f e.ps.length) := by
  have h1 : e ∈ t.fs := List.mem_of_find?_eq_some h
  have h2 : e.name = f := by
    have z := List.find?_some (p := fun (e : Ent) => decide (e.name = f)) h
    exact of_decide_eq_true z
  obtain ⟨fa, fd, O⟩ := M.fn e h1
  refine ⟨fa, fd, O, ?_⟩
  subst h2
  exact fn_ok M k e h1 h fa fd O
end
end PI
set_option Elab.async false
set_option linter.all false
set_option maxRecDepth 100000
set_option maxHeartbeats 8000000
/-! PI, part AL: the head's facts for a table of defs. -/
namespace PI
open PySem PySem.Spec PyProof.Rows L2
/-! ### plain things of the module -/
mutual
def conV (K : PySem.W.Frag) : D → Value → Bool
  | .non, u => (match u with
    | .none => true
    | _ => false)
  | .bl b, u => (match u with
    | .bool c => b == c
    | _ => false)
  | .int i, u => (match u with
    | .int j _ => decide (i = j)
    | _ => false)
  | .str x, u => (match u with
    | .str y _ => decide (x = y)
    | _ => false)
  | .tup l, u => (match u with
    | .ref a => (match K.lookup a with
      | some ⟨.type c, _, .seq its _, _⟩ => decide (c = "tuple") && (decide (its.size ≤ sizeLine) && conVs K l its.toList)
      | _ => false)
    | _ => false)
  | _, _ => false
def conVs (K : PySem.W.Frag) : List D → List Value → Bool
  | [], [] => true
  | d :: l, u :: us => conV K d u && conVs K l us
  | _, _ => false
end
section
variable {w : World} {K : PySem.W.Frag}
mutual
theorem conV_ok : ∀ {d : D} {u : Value}, conV K d u = true → ∃ v, RelV v u ∧ ∀ mu H, Den w K mu H v d
  | .non, u, h => by
    unfold conV at h
    cases u with
    | none => exact ⟨.non, rfl, fun _ _ => .non⟩
    | _ => cases h
  | .bl b, u, h => by
    unfold conV at h
    cases u with
    | bool c => exact ⟨.bl b, by rw [show b = c from eq_of_beq h]; rfl, fun _ _ => .bl b⟩
    | _ => cases h
  | .int i, u, h => by
    unfold conV at h
    cases u with
    | int j t => exact ⟨.int i, ⟨t, by rw [show i = j from of_decide_eq_true h]⟩, fun _ _ => .int i⟩
    | _ => cases h
  | .str i, u, h => by
    unfold conV at h
    cases u with
    | str j t => exact ⟨.str i, ⟨t, by rw [show i = j from of_decide_eq_true h]⟩, fun _ _ => .str i⟩
    | _ => cases h
  | .tup l, u, h => by
    unfold conV at h
    cases u with
    | ref a =>
      dsimp only at h
      cases e : K.lookup a with
      | none => rw [e] at h; cases h
      | some o =>
        obtain ⟨oc, od, dt, osl⟩ := o
        rw [e] at h
        cases oc with
        | type c =>
          cases dt with
          | seq its n =>
            obtain ⟨h1, h2⟩ := Bool.and_eq_true_iff.mp (show (decide (c = "tuple") && (decide (its.size ≤ sizeLine) && conVs K l its.toList)) = true from h)
            obtain ⟨h3, h4⟩ := Bool.and_eq_true_iff.mp h2
            obtain ⟨xs, q1, q2⟩ := conVs_ok h4
            exact ⟨.ref a, rfl, fun mu H => .tup (.inr ⟨_, its, n, e, congrArg Value.type (of_decide_eq_true h1), rfl, of_decide_eq_true h3, q1⟩) (q2 mu H)⟩
          | _ => cases h
        | _ => cases dt <;> cases h
    | _ => cases h
  | .lst l, u, h => by unfold conV at h; cases h
  | .dct l r, u, h => by unfold conV at h; cases h
  | .ref l, u, h => by unfold conV at h; cases h
  | .scr l, u, h => by unfold conV at h; cases h
theorem conVs_ok : ∀ {l : List D} {us : List Value}, conVs K l us = true → ∃ xs, Vals xs us ∧ ∀ mu H, Dens w K mu H xs l
  | [], [], _ => ⟨[], .nil, fun _ _ => .nil⟩
  | [], _ :: _, h => by unfold conVs at h; cases h
  | _ :: _, [], h => by unfold conVs at h; cases h
  | d :: l, u :: us, h => by
    unfold conVs at h
    obtain ⟨h1, h2⟩ := Bool.and_eq_true_iff.mp h
    obtain ⟨v, r1, r2⟩ := conV_ok h1
    obtain ⟨xs, q1, q2⟩ := conVs_ok h2
    exact ⟨v :: xs, .cons r1 q1, fun mu H => .cons (r2 mu H) (q2 mu H)⟩
end
end
def conB (K : PySem.W.Frag) (p : Str × D) : Bool := match PySem.W.nsIn K mainGlobals p.1 with
  | some (some u) => conV K p.2 u
  | _ => false
theorem conB_ok {w : World} {K : PySem.W.Frag} {h : Heap} {mg : Str → Option Value} (X : K.In h) (G : h.Ns mainGlobals mg) {p : Str × D} (c : conB K p = true) : ∃ v u, mg p.1 = some u ∧ RelV v u ∧ ∀ mu H, Den w K mu H v p.2 := by
  unfold conB at c
  cases e : PySem.W.nsIn K mainGlobals p.1 with
  | none => rw [e] at c; cases c
  | some o => cases o with
    | none => rw [e] at c; cases c
    | some u =>
      rw [e] at c
      obtain ⟨v, h1, h2⟩ := conV_ok (w := w) c
      exact ⟨v, u, PySem.W.mg_of X G e, h1, h2⟩
/-! ### the Hook -/
def obC (fa : List He.Fa) (fn : List He.DefD) (cs : List (Str × D)) (K : PySem.W.Frag) : He.AlD := (((fa.all fun f => f.ok K) && fn.all fun d => d.ok K) && cs.all (conB K), fn.map fun d => He.fnW K d.at_)
def SaysC (fa : List He.Fa) (fn : List He.DefD) (cs : List (Str × D)) (K : PySem.W.Frag) : Prop := obC fa fn cs K = He.valD fn
def obCG (n : Nat) (fa : List He.Fa) (fn : List He.DefD) (cs : List (Str × D)) (g : Addr → Option Obj) : He.AlD := obC fa fn cs (He.frG g (He.asD g n))
def hookC (n : Nat) (fa : List He.Fa) (fn : List He.DefD) (cs : List (Str × D)) : PySem.W.Hook where
  α := He.AlD
  obs := fun s => obCG n fa fn cs s.heap.get?
  val := fun _ => He.valD fn
  says := fun _ h => ∃ K : PySem.W.Frag, K.In h ∧ SaysC fa fn cs K
  of := fun _ _ e => ⟨_, He.frG_in, e⟩
  keeps := fun _ _ _ ⟨K, hK, c⟩ k => ⟨K, PySem.W.Frag.In.keeps hK k, c⟩
theorem obCG_eq {n : Nat} {fa : List He.Fa} {fn : List He.DefD} {cs : List (Str × D)} {g : Addr → Option Obj} {s : Shared} (h : ∀ a, g a = s.heap.get? a) : obCG n fa fn cs g = (hookC n fa fn cs).obs s := by
  have e : g = s.heap.get? := funext h
  rw [e]
  rfl
theorem says_two {fa : List He.Fa} {fn : List He.DefD} {cs : List (Str × D)} {K : PySem.W.Frag} (c : SaysC fa fn cs K) : He.SaysD fa fn K ∧ cs.all (conB K) = true := by
  have c1 : (((fa.all fun f => f.ok K) && fn.all fun d => d.ok K) && cs.all (conB K)) = true := congrArg (fun z : He.AlD => z.1) c
  have c2 : fn.map (fun d => He.fnW K d.at_) = fn.map He.DefD.val := congrArg (fun z : He.AlD => z.2) c
  obtain ⟨h1, h2⟩ := Bool.and_eq_true_iff.mp c1
  exact ⟨Prod.ext h1 c2, h2⟩
/-! ### from a table -/
def Ent.dfd (e : Ent) : He.DefD := ⟨(e.name, none), e.name, e.name, defArgs e.st, defBody e.st, defScope e.st, [], []⟩
/-- which exception is which -/
def subOf (l : List (Str × Str × Bool)) (a h : Str) : Option Bool := (l.find? fun q => decide (q.1 = a ∧ q.2.1 = h)).map (·.2.2)
def Tab.fa (t : Tab) (l : List (Str × Str × Bool)) : List He.Fa := t.fs.map (fun e => .glo e.name) ++ (t.free.map .free ++ (t.exc.map .glo ++ (t.exc.map .exc ++ l.map fun q => .exm q.1 q.2.1 q.2.2)))
def scB (e : Ent) : Bool := (match (defScope e.st).kind with
    | .function => true
    | _ => false) && (!(defScope e.st).isCoroutine && (!(defScope e.st).isGenerator && (decide e.N.Nodup && (decide (e.N.take e.ps.length = e.ps) && (e.ps.all (isLoc (defScope e.st)) && (defScope e.st).names.all fun y => match y.2 with
    | .free => false
    | _ => true)))))
theorem scB_ok {e : Ent} (h : scB e = true) : FnScope e.N e.ps (defScope e.st) := by
  unfold scB at h
  simp only [Bool.and_eq_true, Bool.not_eq_true', decide_eq_true_eq, List.all_eq_true] at h
  obtain ⟨h1, h2, h3, h4, h5, h6, h7⟩ := h
  refine ⟨?_, h2, h3, h4, h5, fun x hx => ?_, fun y hy z => ?_⟩
  · cases e1 : (defScope e.st).kind <;> first | rfl | (rw [e1] at h1; cases h1)
  · have q := h6 x hx
    unfold isLoc at q
    cases z : (defScope e.st).names.lookup x with
    | none => rw [z] at q; cases q
    | some k => cases k <;> first | exact .inl rfl | exact .inr rfl | (rw [z] at q; cases q)
  · have q := h7 y hy
    rw [z] at q
    cases q
/-- how a def's arguments bind -/
def BindP (e : Ent) : Prop := ∀ (kV doc pm : Value) (an : Option Addr) (cdv ct : Value) (us : List Value), us.length = e.ps.length → bindArgs (PySem.W.fnOf e.name e.name (defArgs e.st) (defBody e.st) (defScope e.st) .none kV doc pm an cdv ct) ⟨us, []⟩ = pure (e.ps.zip us)
theorem all_mem {fa : List He.Fa} {K : PySem.W.Frag} (h : (fa.all fun f => f.ok K) = true) {f : He.Fa} (hf : f ∈ fa) : f.ok K = true := List.all_eq_true.mp h f hf
theorem lookup_mem : ∀ {l : List (Str × D)} {x : Str} {d : D}, l.lookup x = some d → (x, d) ∈ l
  | [], _, _, h => by cases h
  | p :: r, x, d, h => by
    obtain ⟨a, b⟩ := p
    rw [List.lookup_cons] at h
    by_cases q : x = a
    · subst q
      rw [beq_self_eq_true] at h
      cases h
      exact List.mem_cons_self
    · rw [show (x == a) = false from beq_eq_false_iff_ne.mpr q] at h
      exact List.mem_cons_of_mem _ (lookup_mem h)
theorem mod_of {P : Program} {w : World} {K : PySem.W.Frag} {h base : Heap} {mg : Str → Option Value} {t : Tab} {l : List (Str × Str × Bool)} (X : K.In h) (G : h.Ns mainGlobals mg) (c : SaysC (t.fa l) (t.fs.map Ent.dfd) t.gc K) (hs : t.fs.all scB = true) (hb : ∀ e ∈ t.fs, BindP e) : ModOk P w K mg base t (subOf l) := by
  obtain ⟨c1, c2⟩ := says_two c
  have c3 : ((t.fa l).all fun f => f.ok K) = true := (He.ba (show (((t.fa l).all fun f => f.ok K) && (t.fs.map Ent.dfd).all fun d => d.ok K) = true from congrArg (fun z : He.AlD => z.1) c1)).1
  refine ⟨fun e he => ?_, fun x d hx => ?_, fun x hx => ?_, fun x hx => ?_, fun a b k hk => ?_⟩
  · obtain ⟨i, hi, ei⟩ := List.mem_iff_getElem.mp he
    have e1 : (t.fs.map Ent.dfd)[i]? = some e.dfd := by
      rw [List.getElem?_map, List.getElem?_eq_getElem hi, ei]
      rfl
    obtain ⟨fd, F⟩ := c1.def_ i e1
    refine ⟨He.ga K e.name, fd, He.glo_ok X G (all_mem c3 ?_), F.kp, F, ?_, scB_ok (List.all_eq_true.mp hs e he)⟩
    · exact List.mem_append_left _ (List.mem_map.mpr ⟨e, he, rfl⟩)
    · exact FunD.bindsN F (hb e he)
  · exact conB_ok (p := (x, d)) X G (List.all_eq_true.mp c2 _ (lookup_mem hx))
  · have hx := List.contains_iff_mem.mp hx
    exact He.free_ok X G (all_mem c3 (List.mem_append_right _ (List.mem_append_left _ (List.mem_map.mpr ⟨x, hx, rfl⟩))))
  · have hx := List.contains_iff_mem.mp hx
    have g1 := He.glo_ok X G (all_mem c3 (f := .glo x) (List.mem_append_right _ (List.mem_append_right _ (List.mem_append_left _ (List.mem_map.mpr ⟨x, hx, rfl⟩)))))
    have g2 := He.exc_ok (K := K) (x := x) (all_mem c3 (f := .exc x) (List.mem_append_right _ (List.mem_append_right _ (List.mem_append_right _ (List.mem_append_left _ (List.mem_map.mpr ⟨x, hx, rfl⟩))))))
    exact ⟨g1, g2⟩
  · unfold subOf at hk
    obtain ⟨q, h1, rfl⟩ := Option.map_eq_some_iff.mp hk
    have h2 := List.mem_of_find?_eq_some h1
    have h3 := of_decide_eq_true (List.find?_some (p := fun (q : Str × Str × Bool) => decide (q.1 = a ∧ q.2.1 = b)) h1)
    obtain ⟨rfl, rfl⟩ := h3
    exact He.exm_ok (all_mem c3 (List.mem_append_right _ (List.mem_append_right _ (List.mem_append_right _ (List.mem_append_right _ (List.mem_map.mpr ⟨q, h2, rfl⟩))))))
/-- a def of one parameter, the script: what it answers by the interpreter, it answers -/
theorem law_sp {w : World} {K : PySem.W.Frag} {t : Tab} {sub : Str → Str → Option Bool} {k : Nat} {f : Str} {ns : List Int} (h : ∃ st, runF t.tb sub k false f [.scr ns] [] = .ok (.bl true) st) {H : Hp} {a : Addr} (hO : Only H) (e : SqL K H a (ns.map V.int)) :
    spF w K (t.F sub k) f 1 [.ref a] H (fun v _ => v = .bl true) (fun _ _ _ => False) := by
  obtain ⟨st, h⟩ := h
  have sc : ScrAt K ⟨[], []⟩ H a (ns.map V.int) := by
    rcases e with (e | e) | e
    · rcases hO a with z | ⟨o, xs, z⟩
      · rw [z] at e; cases e
      · rw [z] at e; cases e
    · exact .inl ⟨e, by simp, by simp⟩
    · exact .inr e
  refine ⟨rfl, ⟨[], []⟩, [], [.scr ns], false, fun _ _ _ _ _ => False, .cons (.scr sc) .nil, ⟨rfl, List.nodup_nil, fun i o z => by simp at z, fun b hb => nomatch hb⟩, ?_, fun _ _ _ _ _ _ _ z => z.elim⟩
  have q : (t.F sub k).cl false f [.scr ns] [] = .ok (.bl true) st := h
  rw [q]
  exact fun mu' H' x R v hv => by cases hv; rfl
end PI
set_option Elab.async false
set_option linter.all false
set_option maxRecDepth 100000
set_option maxHeartbeats 8000000
/-! PI, part AM: a law by what the interpreter answers. -/
namespace PI
open PySem PySem.Spec PyProof.Rows L2
/-- a promise under which nothing is let out -/
theorem noOut {P : Program} {w : World} {K : PySem.W.Frag} {mg : Str → Option Value} {base : Heap} {k : Nat} {f : Addr} {fd : FuncData} {ps : List Str} {sp : Sp} (F : FnOk P w K mg base (L2.CX P w) k f fd ps sp) :
    FnOk P w K mg base (fun _ _ _ _ _ _ => False) k f fd ps (fun vs H Q _ => sp vs H Q fun _ _ _ => False) :=
  ⟨fun vs H Q E h => F.len _ _ _ _ h, fun A outer s H args us vs Q E hr e0 hb r h => codeAny_mono (F.run A outer s H args us vs Q _ hr e0 hb r h) fun r s' q => by
    cases r with
    | ok f => cases f <;> exact q
    | error e =>
      obtain ⟨_, _, _, _, _, _, _, _, _, _, _, _, z⟩ := q
      exact z⟩
theorem walk_tab {l : PySem.W.OpenLaw} {n k m : Nat} {q : Program} {loose : List Str} {XP : (Str → Option Value) → Heap → Prop} {d : DefRec} {t : Tab} {subs : List (Str × Str × Bool)} {x : Str} {e : Ent}
    (hn : l.most = some n) (hn2 : n ≤ sizeLine) (hdf : d.params.defaults = []) (hr : Room k callerA) (hd : t.at d.name = some e) (hx : e.ps = [x]) (hs : t.fs.all scB = true) (hb : ∀ e ∈ t.fs, BindP e)
    (math : ∀ ns : List Int, ns.length ≤ n → ∃ st, runF t.tb (subOf subs) k false d.name [.scr ns] [] = .ok (.bl true) st) :
    PySem.W.WalkO q loose XP (hookC m (t.fa subs) (t.fs.map Ent.dfd) t.gc).says l.row.toRowW d [] (fun f vs => PySem.call f vs) := by
  refine L2.walk_ofE (l := l) (n := n) (k := k) (x := x) (CX := fun _ _ _ _ _ _ => False) hn hn2 hdf hr (fun w mg fa h Y G hmg => ?_) (fun _ _ _ _ z => z)
  obtain ⟨K, KX, c⟩ := Y
  have he : e ∈ t.fs := List.mem_of_find?_eq_some hd
  have en : e.name = d.name := by
    have z := List.find?_some (p := fun (e : Ent) => decide (e.name = d.name)) hd
    exact of_decide_eq_true z
  have M : ∀ base : Heap, ModOk l.prog w K mg base t (subOf subs) := fun base => mod_of KX G c hs hb
  obtain ⟨fa', fd, O⟩ := (M h).fn e he
  have efa : fa' = fa := by
    have z := O.mg
    rw [en, hmg] at z
    cases z
    rfl
  subst efa
  have ha : t.at e.name = some e := by rw [en]; exact hd
  refine ⟨K, fd, fun vs H Q _ => spF w K (t.F (subOf subs) k) e.name e.ps.length vs H Q fun _ _ _ => False, KX, fun s u => ?_, fun H a ns hl hO hS => ?_, fun base _ _ => ?_⟩
  · have z := FunD.bindsA O.fn (hb e he) s [u] (by rw [hx]; rfl)
    rw [hx] at z
    exact z
  · have z := math ns hl
    rw [← en] at z
    have z2 := law_sp (w := w) (K := K) (t := t) (sub := subOf subs) (k := k) z hO hS
    rw [hx]
    exact z2
  · have z := noOut (fn_ok (M base) k e he ha fa' fd O)
    rw [hx] at z
    rw [hx]
    exact z
end PI
set_option Elab.async false
set_option linter.all false
set_option maxRecDepth 100000
set_option maxHeartbeats 0
namespace K66
open PySem PySem.Spec PyProof.Rows L2 PI
def top (i : Nat) : Stmt := PySem.Challenge.pw_mindsrevised_k66_whole_keeping_up_with_c.main.body.getD i (.Pass ⟨0, 0, 0, 0⟩)
def muL_0 : List (Nat × Nat) := [(97, 12), (103, 12), (131, 11), (141, 11), (184, 12), (187, 16), (189, 16), (254, 11), (266, 16)]
def muL : List (Nat × Nat) := muL_0
def gcL_0 : List (PySem.Str × D) := [("MOST_LETTERS", .int 6), ("MOST_RANK", .int 1000000), ("NEARS", .tup [.str "letters", .str "lots"])]
def gcL : List (PySem.Str × D) := gcL_0
def e0 : Ent := ⟨"is_integer", ["thing"], ["thing"], muL, top 9⟩
def e1 : Ent := ⟨"is_between", ["thing", "least", "greatest"], ["thing", "least", "greatest"], muL, top 10⟩
def e2 : Ent := ⟨"need_letters", ["thing"], ["thing"], muL, top 11⟩
def e3 : Ent := ⟨"many_worlds", ["letters"], ["letters"], muL, top 12⟩
def e4 : Ent := ⟨"is_lot_of", ["letters", "thing"], ["letters", "thing", "at", "world"], muL, top 14⟩
def e5 : Ent := ⟨"need_lot", ["letters", "thing"], ["letters", "thing"], muL, top 15⟩
def e6 : Ent := ⟨"is_mind", ["thing"], ["thing", "told", "letters", "ranks", "rank"], muL, top 18⟩
def e7 : Ent := ⟨"need_mind", ["thing"], ["thing"], muL, top 19⟩
def e8 : Ent := ⟨"settled", ["ranks"], ["ranks", "told", "least", "rank"], muL, top 20⟩
def e9 : Ent := ⟨"held_of", ["ranks"], ["ranks", "world", "rank"], muL, top 21⟩
def e10 : Ent := ⟨"held_lot", ["mind"], ["mind"], muL, top 22⟩
def e11 : Ent := ⟨"lesser", ["one", "other"], ["one", "other"], muL, top 24⟩
def e12 : Ent := ⟨"apart", ["world", "other"], ["world", "other", "unlike", "count"], muL, top 26⟩
def e13 : Ent := ⟨"need_near", ["thing"], ["thing"], muL, top 29⟩
def e14 : Ent := ⟨"is_less", ["world", "one", "other", "near"], ["world", "one", "other", "near", "mine", "theirs"], muL, top 30⟩
def e15 : Ent := ⟨"nearest_of", ["world", "lot", "near"], ["world", "lot", "near", "one", "other"], muL, top 31⟩
def e16 : Ent := ⟨"nearest", ["letters", "world", "lot", "near"], ["letters", "world", "lot", "near"], muL, top 32⟩
def e17 : Ent := ⟨"moved", ["letters", "held", "lot", "near"], ["letters", "held", "lot", "near"], muL, top 33⟩
def e18 : Ent := ⟨"moved_of", ["held", "lot", "near"], ["held", "lot", "near", "found", "world", "other"], muL, top 34⟩
def e19 : Ent := ⟨"kept_up_of", ["mind", "lot", "near"], ["mind", "lot", "near", "ranks", "world", "rank", "other"], muL, top 35⟩
def e20 : Ent := ⟨"kept_up", ["mind", "lot", "near"], ["mind", "lot", "near"], muL, top 36⟩
def e21 : Ent := ⟨"first_unlike", ["letters", "lot", "near"], ["letters", "lot", "near", "worlds", "one", "other", "both"], muL, top 37⟩
def e22 : Ent := ⟨"nearest_to_both", ["one", "other", "lot", "near"], ["one", "other", "lot", "near", "pairs", "kept", "least", "start", "world", "gap", "gaps", "first", "second", "far"], muL, top 38⟩
def e23 : Ent := ⟨"_law_hand", ["script"], ["script", "cells", "cell"], muL, top 40⟩
def e24 : Ent := ⟨"_law_draw", ["hand", "many"], ["hand", "many", "number", "cell", "digit"], muL, top 41⟩
def e25 : Ent := ⟨"_law_some", ["hand", "things"], ["hand", "things"], muL, top 42⟩
def e26 : Ent := ⟨"_law_kept", ["told", "due"], ["told", "due", "at"], muL, top 43⟩
def e27 : Ent := ⟨"_law_lot", ["hand", "many"], ["hand", "many", "share", "world"], muL, top 44⟩
def e28 : Ent := ⟨"_law_full_lot", ["hand", "many"], ["hand", "many", "lot"], muL, top 45⟩
def e29 : Ent := ⟨"_law_settled", ["ranks"], ["ranks", "least", "rank"], muL, top 46⟩
def e30 : Ent := ⟨"_law_mind", ["hand", "letters"], ["hand", "letters", "most", "ranks", "kind", "many", "weights", "world", "letter", "rank"], muL, top 47⟩
def e31 : Ent := ⟨"_law_held", ["mind"], ["mind", "world"], muL, top 48⟩
def e32 : Ent := ⟨"_law_no_mind", ["hand", "mind"], ["hand", "mind", "odd", "letters", "ranks"], muL, top 49⟩
def e33 : Ent := ⟨"_law_no_lot", ["hand", "many"], ["hand", "many"], muL, top 50⟩
def e34 : Ent := ⟨"_law_lesser", ["one", "other"], ["one", "other"], muL, top 51⟩
def e35 : Ent := ⟨"_law_gap", ["letters", "one", "other"], ["letters", "one", "other", "letter"], muL, top 52⟩
def e36 : Ent := ⟨"_law_nearer", ["letters", "one", "other", "near"], ["letters", "one", "other", "near", "letter"], muL, top 53⟩
def e37 : Ent := ⟨"_law_nearest", ["letters", "world", "lot", "near"], ["letters", "world", "lot", "near", "gaps", "other", "at", "gap"], muL, top 54⟩
def e38 : Ent := ⟨"_law_moved", ["letters", "held", "lot", "near"], ["letters", "held", "lot", "near", "found", "world"], muL, top 55⟩
def e39 : Ent := ⟨"_law_both", ["letters", "one", "other", "lot", "near"], ["letters", "one", "other", "lot", "near", "pairs", "gaps", "pair", "world", "at", "gap"], muL, top 56⟩
def e40 : Ent := ⟨"_law_first", ["letters", "lot", "near"], ["letters", "lot", "near", "one", "other"], muL, top 57⟩
def e41 : Ent := ⟨"_law_refusal", ["kind", "first", "thing", "lot", "near"], ["kind", "first", "thing", "lot", "near", "e"], muL, top 58⟩
def e42 : Ent := ⟨"law", ["script"], ["script", "hand", "turn", "letters", "ranks", "here", "made", "parts", "kind", "many", "near", "lot", "held", "world", "mind", "full", "there", "one", "other", "odd", "wrong", "at"], muL, top 59⟩
def es : List Ent := e0 :: e1 :: e2 :: e3 :: e4 :: e5 :: e6 :: e7 :: e8 :: e9 :: e10 :: e11 :: e12 :: e13 :: e14 :: e15 :: e16 :: e17 :: e18 :: e19 :: e20 :: e21 :: e22 :: e23 :: e24 :: e25 :: e26 :: e27 :: e28 :: e29 :: e30 :: e31 :: e32 :: e33 :: e34 :: e35 :: e36 :: e37 :: e38 :: e39 :: e40 :: e41 :: e42 :: []
def tab : Tab := ⟨es, gcL, ["ValueError", "abs", "all", "any", "bool", "enumerate", "int", "isinstance", "len", "list", "max", "min", "range", "set", "sorted", "str", "sum", "tuple"], ["MindError", "NoLetters", "NoWorld", "NoLot", "NoMind", "NoWord"]⟩
def subL_0 : List (PySem.Str × PySem.Str × Bool) := [("NoLetters", "MindError", true), ("NoLetters", "NoLetters", true), ("NoLetters", "NoLot", false), ("NoLetters", "NoMind", false), ("NoLetters", "NoWord", false), ("NoLetters", "NoWorld", false), ("NoWorld", "MindError", true), ("NoWorld", "NoLetters", false), ("NoWorld", "NoLot", false), ("NoWorld", "NoMind", false), ("NoWorld", "NoWord", false), ("NoWorld", "NoWorld", true), ("NoLot", "MindError", true), ("NoLot", "NoLetters", false), ("NoLot", "NoLot", true), ("NoLot", "NoMind", false), ("NoLot", "NoWord", false), ("NoLot", "NoWorld", false), ("NoMind", "MindError", true), ("NoMind", "NoLetters", false), ("NoMind", "NoLot", false), ("NoMind", "NoMind", true), ("NoMind", "NoWord", false), ("NoMind", "NoWorld", false), ("NoWord", "MindError", true), ("NoWord", "NoLetters", false), ("NoWord", "NoLot", false), ("NoWord", "NoMind", false), ("NoWord", "NoWord", true), ("NoWord", "NoWorld", false)]
def subL : List (PySem.Str × PySem.Str × Bool) := subL_0
end K66
set_option Elab.async false
set_option linter.all false
set_option maxRecDepth 100000
set_option maxHeartbeats 0
namespace K66
open PySem PI
def L_is_integer : Ss := (.cons (.ret (.and (.isi (.v 0) .int) (.not (.isi (.v 0) .bool)))) .nil)
theorem tb_is_integer : tab.tb "is_integer" = some ⟨1, 1, L_is_integer⟩ := by kernel_rfl
def L_is_between : Ss := (.cons (.ret (.and (.own false "is_integer" (.cons (.v 0) .nil)) (.cmp2 .le .le (.v 1) (.v 0) (.v 2)))) .nil)
theorem tb_is_between : tab.tb "is_between" = some ⟨3, 3, L_is_between⟩ := by kernel_rfl
def L_need_letters : Ss := (.cons (.ife (.not (.own false "is_between" (.cons (.v 0) (.cons (.c (.int 1)) (.cons (.c (.int 6)) .nil))))) (.cons (.raise "NoLetters" .nil) .nil) .nil) .nil)
theorem tb_need_letters : tab.tb "need_letters" = some ⟨1, 1, L_need_letters⟩ := by kernel_rfl
def L_many_worlds : Ss := (.cons (.ret (.bin false .shl (.c (.int 1)) (.v 0))) .nil)
theorem tb_many_worlds : tab.tb "many_worlds" = some ⟨1, 1, L_many_worlds⟩ := by kernel_rfl
def L_is_lot_of_c0 : E := .comp false (.own false "is_between" (.cons (.v 3) (.cons (.c (.int 0)) (.cons (.bin false .sub (.own false "many_worlds" (.cons (.v 0) .nil)) (.c (.int 1))) .nil)))) [3] (.nm 3) (.seq (.v 1)) .nil
def L_is_lot_of_c1 : E := .comp false (.cmp .lt (.ix (.v 1) (.bin false .sub (.v 2) (.c (.int 1)))) (.ix (.v 1) (.v 2))) [2] (.nm 2) (.rng (.cons (.c (.int 1)) (.cons (.bi false .len (.cons (.v 1) .nil)) .nil))) .nil
def L_is_lot_of : Ss := (.cons (.ife (.or (.not (.isi (.v 1) .tuple)) (.not (.bi false .all (.cons L_is_lot_of_c0 .nil)))) (.cons (.ret (.c (.bl false))) .nil) .nil) (.cons (.ret (.bi false .all (.cons L_is_lot_of_c1 .nil))) .nil))
theorem tb_is_lot_of : tab.tb "is_lot_of" = some ⟨2, 4, L_is_lot_of⟩ := by kernel_rfl
def L_need_lot : Ss := (.cons (.expr (.own false "need_letters" (.cons (.v 0) .nil))) (.cons (.ife (.not (.own false "is_lot_of" (.cons (.v 0) (.cons (.v 1) .nil)))) (.cons (.raise "NoLot" .nil) .nil) .nil) .nil))
theorem tb_need_lot : tab.tb "need_lot" = some ⟨2, 2, L_need_lot⟩ := by kernel_rfl
def L_is_mind_c0 : E := .comp false (.v 4) [4] (.nm 4) (.seq (.v 3)) (.cons (.isN true (.v 4)) .nil)
def L_is_mind_c1 : E := .comp false (.own false "is_between" (.cons (.v 4) (.cons (.c (.int 0)) (.cons (.c (.int 1000000)) .nil)))) [4] (.nm 4) (.seq (.v 1)) .nil
def L_is_mind : Ss := (.cons (.ife (.or (.not (.isi (.v 0) .tuple)) (.or (.cmp .ne (.bi false .len (.cons (.v 0) .nil)) (.c (.int 2))) (.not (.own false "is_between" (.cons (.ix (.v 0) (.c (.int 0))) (.cons (.c (.int 1)) (.cons (.c (.int 6)) .nil))))))) (.cons (.ret (.c (.bl false))) .nil) .nil) (.cons (.asg (.tp (.cons (.nm 2) (.cons (.nm 3) .nil))) (.v 0)) (.cons (.ife (.or (.not (.isi (.v 3) .tuple)) (.cmp .ne (.bi false .len (.cons (.v 3) .nil)) (.own false "many_worlds" (.cons (.v 2) .nil)))) (.cons (.ret (.c (.bl false))) .nil) .nil) (.cons (.asg (.nm 1) L_is_mind_c0) (.cons (.ret (.and (.cmp .gt (.bi false .len (.cons (.v 1) .nil)) (.c (.int 0))) (.and (.bi false .all (.cons L_is_mind_c1 .nil)) (.cmp .eq (.bi false .min (.cons (.v 1) .nil)) (.c (.int 0)))))) .nil)))))
theorem tb_is_mind : tab.tb "is_mind" = some ⟨1, 5, L_is_mind⟩ := by kernel_rfl
def L_need_mind : Ss := (.cons (.ife (.not (.own false "is_mind" (.cons (.v 0) .nil))) (.cons (.raise "NoMind" .nil) .nil) .nil) .nil)
theorem tb_need_mind : tab.tb "need_mind" = some ⟨1, 1, L_need_mind⟩ := by kernel_rfl
def L_settled_c0 : E := .comp false (.v 3) [3] (.nm 3) (.seq (.v 0)) (.cons (.isN true (.v 3)) .nil)
def L_settled_c1 : E := .comp false (.ite (.isN false (.v 3)) (.c .non) (.bin false .sub (.v 3) (.v 2))) [3] (.nm 3) (.seq (.v 0)) .nil
def L_settled : Ss := (.cons (.asg (.nm 1) L_settled_c0) (.cons (.ife (.cmp .eq (.bi false .len (.cons (.v 1) .nil)) (.c (.int 0))) (.cons (.raise "NoWorld" .nil) .nil) .nil) (.cons (.asg (.nm 2) (.bi false .min (.cons (.v 1) .nil))) (.cons (.ife (.cmp .gt (.bin false .sub (.bi false .max (.cons (.v 1) .nil)) (.v 2)) (.c (.int 1000000))) (.cons (.raise "NoMind" .nil) .nil) .nil) (.cons (.ret (.bi false .tuple (.cons L_settled_c1 .nil))) .nil)))))
theorem tb_settled : tab.tb "settled" = some ⟨1, 4, L_settled⟩ := by kernel_rfl
def L_held_of_c0 : E := .comp false (.v 1) [1, 2] (.tp (.cons (.nm 1) (.cons (.nm 2) .nil))) (.enum (.v 0)) (.cons (.cmp .eq (.v 2) (.c (.int 0))) .nil)
def L_held_of : Ss := (.cons (.ret (.bi false .tuple (.cons L_held_of_c0 .nil))) .nil)
theorem tb_held_of : tab.tb "held_of" = some ⟨1, 3, L_held_of⟩ := by kernel_rfl
def L_held_lot : Ss := (.cons (.expr (.own false "need_mind" (.cons (.v 0) .nil))) (.cons (.ret (.own false "held_of" (.cons (.ix (.v 0) (.c (.int 1))) .nil))) .nil))
theorem tb_held_lot : tab.tb "held_lot" = some ⟨1, 1, L_held_lot⟩ := by kernel_rfl
def L_lesser : Ss := (.cons (.ife (.or (.isN false (.v 0)) (.isN false (.v 1))) (.cons (.ret (.ite (.isN false (.v 0)) (.v 1) (.v 0))) .nil) .nil) (.cons (.ret (.bi false .min (.cons (.v 0) (.cons (.v 1) .nil)))) .nil))
theorem tb_lesser : tab.tb "lesser" = some ⟨2, 2, L_lesser⟩ := by kernel_rfl
def L_apart_t0 : E := (.cmp .gt (.v 2) (.c (.int 0)))
def L_apart_b1 : Ss := (.cons (.aug 3 .add (.bin false .and (.v 2) (.c (.int 1)))) (.cons (.asg (.nm 2) (.bin false .shr (.v 2) (.c (.int 1)))) .nil))
def L_apart_w2 : S := .whl L_apart_t0 L_apart_b1
def L_apart : Ss := (.cons (.asg (.nm 2) (.bin false .xor (.v 0) (.v 1))) (.cons (.asg (.nm 3) (.c (.int 0))) (.cons L_apart_w2 (.cons (.ret (.v 3)) .nil))))
theorem tb_apart : tab.tb "apart" = some ⟨2, 4, L_apart⟩ := by kernel_rfl
def L_need_near : Ss := (.cons (.ife (.or (.not (.isi (.v 0) .str)) (.cmp .nin (.v 0) (.c (.tup [(.str "letters"), (.str "lots")])))) (.cons (.raise "NoWord" .nil) .nil) .nil) .nil)
theorem tb_need_near : tab.tb "need_near" = some ⟨1, 1, L_need_near⟩ := by kernel_rfl
def L_is_less : Ss := (.cons (.ife (.cmp .eq (.v 3) (.c (.str "letters"))) (.cons (.ret (.cmp .lt (.own false "apart" (.cons (.v 0) (.cons (.v 1) .nil))) (.own false "apart" (.cons (.v 0) (.cons (.v 2) .nil))))) .nil) .nil) (.cons (.par [4, 5] (.cons (.bin false .xor (.v 0) (.v 1)) (.cons (.bin false .xor (.v 0) (.v 2)) .nil))) (.cons (.ret (.and (.cmp .ne (.v 4) (.v 5)) (.cmp .eq (.bin false .and (.v 4) (.un .inv (.v 5))) (.c (.int 0))))) .nil)))
theorem tb_is_less : tab.tb "is_less" = some ⟨4, 6, L_is_less⟩ := by kernel_rfl
def L_nearest_of_c0 : E := .comp false (.own false "is_less" (.cons (.v 0) (.cons (.v 4) (.cons (.v 3) (.cons (.v 2) .nil))))) [4] (.nm 4) (.seq (.v 1)) .nil
def L_nearest_of_c1 : E := .comp false (.v 3) [3] (.nm 3) (.seq (.v 1)) (.cons (.not (.bi false .any (.cons L_nearest_of_c0 .nil))) .nil)
def L_nearest_of : Ss := (.cons (.ret (.bi false .tuple (.cons L_nearest_of_c1 .nil))) .nil)
theorem tb_nearest_of : tab.tb "nearest_of" = some ⟨3, 5, L_nearest_of⟩ := by kernel_rfl
def L_nearest : Ss := (.cons (.expr (.own false "need_lot" (.cons (.v 0) (.cons (.v 2) .nil)))) (.cons (.expr (.own false "need_lot" (.cons (.v 0) (.cons (.tup (.cons (.v 1) .nil)) .nil)))) (.cons (.expr (.own false "need_near" (.cons (.v 3) .nil))) (.cons (.ret (.own false "nearest_of" (.cons (.v 1) (.cons (.v 2) (.cons (.v 3) .nil))))) .nil))))
theorem tb_nearest : tab.tb "nearest" = some ⟨4, 4, L_nearest⟩ := by kernel_rfl
def L_moved : Ss := (.cons (.expr (.own false "need_letters" (.cons (.v 0) .nil))) (.cons (.expr (.own false "need_lot" (.cons (.v 0) (.cons (.v 1) .nil)))) (.cons (.expr (.own false "need_lot" (.cons (.v 0) (.cons (.v 2) .nil)))) (.cons (.expr (.own false "need_near" (.cons (.v 3) .nil))) (.cons (.ret (.own false "moved_of" (.cons (.v 1) (.cons (.v 2) (.cons (.v 3) .nil))))) .nil)))))
theorem tb_moved : tab.tb "moved" = some ⟨4, 4, L_moved⟩ := by kernel_rfl
def L_moved_of_b0 : Ss := (.cons (.setix (.v 3) (.v 5) (.c (.bl true))) .nil)
def L_moved_of_f1 : S := .for_ (.nm 5) (.seq (.own false "nearest_of" (.cons (.v 4) (.cons (.v 1) (.cons (.v 2) .nil))))) L_moved_of_b0
def L_moved_of_b2 : Ss := (.cons L_moved_of_f1 .nil)
def L_moved_of_f3 : S := .for_ (.nm 4) (.seq (.v 0)) L_moved_of_b2
def L_moved_of : Ss := (.cons (.asg (.nm 3) (.dct0 true)) (.cons L_moved_of_f3 (.cons (.ret (.bi false .tuple (.cons (.bi false .sorted (.cons (.v 3) .nil)) .nil))) .nil)))
theorem tb_moved_of : tab.tb "moved_of" = some ⟨3, 6, L_moved_of⟩ := by kernel_rfl
def L_kept_up_of_b0 : Ss := (.cons (.setix (.v 3) (.v 6) (.own false "lesser" (.cons (.ix (.v 3) (.v 6)) (.cons (.v 5) .nil)))) .nil)
def L_kept_up_of_f1 : S := .for_ (.nm 6) (.seq (.own false "nearest_of" (.cons (.v 4) (.cons (.v 1) (.cons (.v 2) .nil))))) L_kept_up_of_b0
def L_kept_up_of_b2 : Ss := (.cons (.ife (.isN true (.v 5)) (.cons L_kept_up_of_f1 .nil) .nil) .nil)
def L_kept_up_of_f3 : S := .for_ (.tp (.cons (.nm 4) (.cons (.nm 5) .nil))) (.enum (.ix (.v 0) (.c (.int 1)))) L_kept_up_of_b2
def L_kept_up_of : Ss := (.cons (.asg (.nm 3) (.bin true .mul (.lst true (.cons (.c .non) .nil)) (.bi false .len (.cons (.ix (.v 0) (.c (.int 1))) .nil)))) (.cons L_kept_up_of_f3 (.cons (.ret (.tup (.cons (.ix (.v 0) (.c (.int 0))) (.cons (.own false "settled" (.cons (.v 3) .nil)) .nil)))) .nil)))
theorem tb_kept_up_of : tab.tb "kept_up_of" = some ⟨3, 7, L_kept_up_of⟩ := by kernel_rfl
def L_kept_up : Ss := (.cons (.expr (.own false "need_mind" (.cons (.v 0) .nil))) (.cons (.expr (.own false "need_lot" (.cons (.ix (.v 0) (.c (.int 0))) (.cons (.v 1) .nil)))) (.cons (.expr (.own false "need_near" (.cons (.v 2) .nil))) (.cons (.ife (.cmp .eq (.bi false .len (.cons (.v 1) .nil)) (.c (.int 0))) (.cons (.raise "NoWorld" .nil) .nil) .nil) (.cons (.ret (.own false "kept_up_of" (.cons (.v 0) (.cons (.v 1) (.cons (.v 2) .nil))))) .nil)))))
theorem tb_kept_up : tab.tb "kept_up" = some ⟨3, 3, L_kept_up⟩ := by kernel_rfl
def L_first_unlike_b0 : Ss := (.cons (.asg (.nm 6) (.own false "moved_of" (.cons (.tup (.cons (.v 4) (.cons (.v 5) .nil))) (.cons (.v 1) (.cons (.v 2) .nil))))) (.cons (.ife (.cmp .ne (.v 6) (.own false "nearest_to_both" (.cons (.v 4) (.cons (.v 5) (.cons (.v 1) (.cons (.v 2) .nil)))))) (.cons (.ret (.tup (.cons (.v 4) (.cons (.v 5) .nil)))) .nil) .nil) .nil))
def L_first_unlike_f1 : S := .for_ (.nm 5) (.rng (.cons (.bin false .add (.v 4) (.c (.int 1))) (.cons (.v 3) .nil))) L_first_unlike_b0
def L_first_unlike_b2 : Ss := (.cons L_first_unlike_f1 .nil)
def L_first_unlike_f3 : S := .for_ (.nm 4) (.rng (.cons (.v 3) .nil)) L_first_unlike_b2
def L_first_unlike : Ss := (.cons (.expr (.own false "need_lot" (.cons (.v 0) (.cons (.v 1) .nil)))) (.cons (.expr (.own false "need_near" (.cons (.v 2) .nil))) (.cons (.asg (.nm 3) (.bin false .shl (.c (.int 1)) (.v 0))) (.cons L_first_unlike_f3 (.cons (.ret (.c .non)) .nil)))))
theorem tb_first_unlike : tab.tb "first_unlike" = some ⟨3, 7, L_first_unlike⟩ := by kernel_rfl
def L_nearest_to_both_c0 : E := .comp2 false (.tup (.cons (.v 7) (.cons (.v 8) .nil))) [7, 8] [8] (.nm 7) (.seq (.tup (.cons (.v 0) (.cons (.v 1) .nil)))) .nil (.nm 8) (.seq (.own false "nearest_of" (.cons (.v 7) (.cons (.v 2) (.cons (.v 3) .nil))))) .nil
def L_nearest_to_both_c1 : E := .comp false (.own false "apart" (.cons (.v 7) (.cons (.v 8) .nil))) [7, 8] (.tp (.cons (.nm 7) (.cons (.nm 8) .nil))) (.seq (.v 4)) .nil
def L_nearest_to_both_c2 : E := .dcomp false (.v 8) (.c (.bl true)) [7, 8] (.tp (.cons (.nm 7) (.cons (.nm 8) .nil))) (.seq (.v 4)) (.cons (.cmp .eq (.own false "apart" (.cons (.v 7) (.cons (.v 8) .nil))) (.v 6)) .nil)
def L_nearest_to_both_c3 : E := .comp false (.bin false .xor (.v 11) (.v 12)) [11, 12] (.tp (.cons (.nm 11) (.cons (.nm 12) .nil))) (.seq (.v 4)) .nil
def L_nearest_to_both_c4 : E := .comp false (.and (.cmp .ne (.v 13) (.v 9)) (.cmp .eq (.bin false .and (.v 13) (.un .inv (.v 9))) (.c (.int 0)))) [13] (.nm 13) (.seq (.v 10)) .nil
def L_nearest_to_both_b5 : Ss := (.cons (.asg (.nm 9) (.bin false .xor (.v 7) (.v 8))) (.cons (.asg (.nm 10) L_nearest_to_both_c3) (.cons (.ife (.not (.bi false .any (.cons L_nearest_to_both_c4 .nil))) (.cons (.expr (.meth .append (.v 5) (.cons (.v 8) .nil))) .nil) .nil) .nil)))
def L_nearest_to_both_f6 : S := .for_ (.tp (.cons (.nm 7) (.cons (.nm 8) .nil))) (.seq (.v 4)) L_nearest_to_both_b5
def L_nearest_to_both_c7 : E := .dcomp false (.v 8) (.c (.bl true)) [8] (.nm 8) (.seq (.v 5)) .nil
def L_nearest_to_both : Ss := (.cons (.asg (.nm 4) L_nearest_to_both_c0) (.cons (.ife (.cmp .eq (.v 3) (.c (.str "letters"))) (.cons (.asg (.nm 6) (.minD L_nearest_to_both_c1 (.c (.int 0)))) (.cons (.ret (.bi false .tuple (.cons (.bi false .sorted (.cons L_nearest_to_both_c2 .nil)) .nil))) .nil)) .nil) (.cons (.asg (.nm 5) (.lst true .nil)) (.cons L_nearest_to_both_f6 (.cons (.ret (.bi false .tuple (.cons (.bi false .sorted (.cons L_nearest_to_both_c7 .nil)) .nil))) .nil)))))
theorem tb_nearest_to_both : tab.tb "nearest_to_both" = some ⟨4, 14, L_nearest_to_both⟩ := by kernel_rfl
def L__law_hand_c0 : E := .comp false (.bi false .abs (.cons (.bi false .int (.cons (.v 2) .nil)) .nil)) [2] (.nm 2) (.seq (.sl false (.v 0) .none (.some (.c (.int 63))))) .nil
def L__law_hand : Ss := (.cons (.asg (.nm 1) L__law_hand_c0) (.cons (.ret (.lst true (.cons (.v 1) (.cons (.c (.int 0)) (.cons (.c (.int 0)) (.cons (.bin false .add (.c (.int 31)) (.bin false .mul (.c (.int 7)) (.bi false .len (.cons (.v 1) .nil)))) (.cons (.c (.int 0)) .nil))))))) .nil))
theorem tb__law_hand : tab.tb "_law_hand" = some ⟨1, 3, L__law_hand⟩ := by kernel_rfl
def L__law_draw : Ss := (.cons (.ife (.and (.cmp .eq (.ix (.v 0) (.c (.int 2))) (.c (.int 0))) (.cmp .lt (.ix (.v 0) (.c (.int 1))) (.bi false .len (.cons (.ix (.v 0) (.c (.int 0))) .nil)))) (.cons (.asg (.nm 3) (.ix (.ix (.v 0) (.c (.int 0))) (.ix (.v 0) (.c (.int 1))))) (.cons (.setix (.v 0) (.c (.int 1)) (.bin false .add (.ix (.v 0) (.c (.int 1))) (.c (.int 1)))) (.cons (.setix (.v 0) (.c (.int 3)) (.bin false .mod (.bi false .int (.cons (.bin false .add (.bin false .add (.bin false .mul (.ix (.v 0) (.c (.int 3))) (.c (.int 48271))) (.v 3)) (.c (.int 11))) .nil)) (.c (.int 2147483647)))) (.cons (.ife (.cmp .ge (.v 3) (.bin false .pow (.c (.int 10)) (.c (.int 18)))) (.cons (.setix (.v 0) (.c (.int 2)) (.v 3)) .nil) .nil) .nil)))) .nil) (.cons (.ife (.cmp .gt (.ix (.v 0) (.c (.int 2))) (.c (.int 0))) (.cons (.asg (.nm 4) (.bin false .mod (.bi false .int (.cons (.ix (.v 0) (.c (.int 2))) .nil)) (.v 1))) (.cons (.setix (.v 0) (.c (.int 2)) (.bin false .fdiv (.ix (.v 0) (.c (.int 2))) (.v 1))) (.cons (.ret (.v 4)) .nil))) .nil) (.cons (.setix (.v 0) (.c (.int 4)) (.bin false .add (.ix (.v 0) (.c (.int 4))) (.c (.int 1)))) (.cons (.asg (.nm 2) (.bin false .mod (.bi false .int (.cons (.bin false .mul (.bi false .int (.cons (.bin false .add (.ix (.v 0) (.c (.int 3))) (.bin false .mul (.c (.int 6007)) (.ix (.v 0) (.c (.int 4))))) .nil)) (.c (.int 69621))) .nil)) (.c (.int 2147483629)))) (.cons (.asg (.nm 2) (.bin false .mod (.bi false .int (.cons (.bin false .mul (.v 2) (.bin false .add (.bin false .fdiv (.v 2) (.c (.int 1013))) (.c (.int 48271)))) .nil)) (.c (.int 2147483647)))) (.cons (.asg (.nm 2) (.bin false .mod (.bi false .int (.cons (.bin false .mul (.v 2) (.bin false .add (.bin false .fdiv (.v 2) (.c (.int 2011))) (.c (.int 16807)))) .nil)) (.c (.int 2147483587)))) (.cons (.ret (.bin false .mod (.bi false .int (.cons (.bin false .fdiv (.v 2) (.c (.int 32))) .nil)) (.v 1))) .nil)))))))
theorem tb__law_draw : tab.tb "_law_draw" = some ⟨2, 5, L__law_draw⟩ := by kernel_rfl
def L__law_some : Ss := (.cons (.ret (.ix (.v 1) (.own false "_law_draw" (.cons (.v 0) (.cons (.bi false .len (.cons (.v 1) .nil)) .nil))))) .nil)
theorem tb__law_some : tab.tb "_law_some" = some ⟨2, 2, L__law_some⟩ := by kernel_rfl
def L__law_kept_c0 : E := .comp false (.own false "_law_kept" (.cons (.ix (.v 0) (.v 2)) (.cons (.ix (.v 1) (.v 2)) .nil))) [2] (.nm 2) (.rng (.cons (.bi false .len (.cons (.v 1) .nil)) .nil)) .nil
def L__law_kept : Ss := (.cons (.ife (.or (.isi (.v 1) .tuple) (.isi (.v 1) .list)) (.cons (.ife (.or (.cmp .ne (.isi (.v 0) .tuple) (.isi (.v 1) .tuple)) (.cmp .ne (.isi (.v 0) .list) (.isi (.v 1) .list))) (.cons (.ret (.c (.bl false))) .nil) .nil) (.cons (.ret (.and (.cmp .eq (.bi false .len (.cons (.v 0) .nil)) (.bi false .len (.cons (.v 1) .nil))) (.bi false .all (.cons L__law_kept_c0 .nil)))) .nil)) .nil) (.cons (.ife (.isN false (.v 1)) (.cons (.ret (.isN false (.v 0))) .nil) .nil) (.cons (.ife (.isi (.v 1) .bool) (.cons (.ret (.ite (.v 1) (.isB false true (.v 0)) (.isB false false (.v 0)))) .nil) .nil) (.cons (.ife (.isi (.v 1) .int) (.cons (.ret (.and (.isi (.v 0) .int) (.and (.not (.isi (.v 0) .bool)) (.cmp .eq (.v 0) (.v 1))))) .nil) .nil) (.cons (.ret (.and (.isi (.v 0) .str) (.cmp .eq (.v 0) (.v 1)))) .nil)))))
theorem tb__law_kept : tab.tb "_law_kept" = some ⟨2, 3, L__law_kept⟩ := by kernel_rfl
def L__law_lot_c0 : E := .comp false (.v 3) [3] (.nm 3) (.rng (.cons (.v 1) .nil)) (.cons (.cmp .lt (.own false "_law_draw" (.cons (.v 0) (.cons (.c (.int 4)) .nil))) (.v 2)) .nil)
def L__law_lot : Ss := (.cons (.asg (.nm 2) (.bin false .add (.c (.int 1)) (.own false "_law_draw" (.cons (.v 0) (.cons (.c (.int 3)) .nil))))) (.cons (.ret (.bi false .tuple (.cons L__law_lot_c0 .nil))) .nil))
theorem tb__law_lot : tab.tb "_law_lot" = some ⟨2, 4, L__law_lot⟩ := by kernel_rfl
def L__law_full_lot : Ss := (.cons (.asg (.nm 2) (.own false "_law_lot" (.cons (.v 0) (.cons (.v 1) .nil)))) (.cons (.ret (.ite (.cmp .gt (.bi false .len (.cons (.v 2) .nil)) (.c (.int 0))) (.v 2) (.tup (.cons (.own false "_law_draw" (.cons (.v 0) (.cons (.v 1) .nil))) .nil)))) .nil))
theorem tb__law_full_lot : tab.tb "_law_full_lot" = some ⟨2, 3, L__law_full_lot⟩ := by kernel_rfl
def L__law_settled_c0 : E := .comp false (.v 2) [2] (.nm 2) (.seq (.v 0)) (.cons (.isN true (.v 2)) .nil)
def L__law_settled_c1 : E := .comp false (.ite (.isN false (.v 2)) (.c .non) (.bin false .sub (.v 2) (.v 1))) [2] (.nm 2) (.seq (.v 0)) .nil
def L__law_settled : Ss := (.cons (.asg (.nm 1) (.bi false .min (.cons L__law_settled_c0 .nil))) (.cons (.ret (.bi false .tuple (.cons L__law_settled_c1 .nil))) .nil))
theorem tb__law_settled : tab.tb "_law_settled" = some ⟨1, 3, L__law_settled⟩ := by kernel_rfl
def L__law_mind_c0 : E := .comp true (.own false "_law_draw" (.cons (.v 0) (.cons (.v 2) .nil))) [7] (.nm 7) (.rng (.cons (.v 5) .nil)) .nil
def L__law_mind_c1 : E := .comp false (.own false "_law_draw" (.cons (.v 0) (.cons (.v 2) .nil))) [8] (.nm 8) (.rng (.cons (.v 1) .nil)) .nil
def L__law_mind_c2 : E := .comp false (.ix (.v 6) (.v 8)) [8] (.nm 8) (.rng (.cons (.v 1) .nil)) (.cons (.cmp .eq (.bin false .mod (.bi false .int (.cons (.bin false .fdiv (.v 7) (.bin false .shl (.c (.int 1)) (.v 8))) .nil)) (.c (.int 2))) (.c (.int 1))) .nil)
def L__law_mind_c3 : E := .comp true (.bi false .sum (.cons L__law_mind_c2 .nil)) [7] (.nm 7) (.rng (.cons (.v 5) .nil)) .nil
def L__law_mind_c4 : E := .comp true (.ite (.cmp .eq (.own false "_law_draw" (.cons (.v 0) (.cons (.c (.int 3)) .nil))) (.c (.int 0))) (.c .non) (.v 9)) [9] (.nm 9) (.seq (.v 3)) .nil
def L__law_mind_c5 : E := .comp false (.isN true (.v 9)) [9] (.nm 9) (.seq (.v 3)) .nil
def L__law_mind : Ss := (.cons (.par [4, 5] (.cons (.own false "_law_draw" (.cons (.v 0) (.cons (.c (.int 4)) .nil))) (.cons (.bin false .shl (.c (.int 1)) (.v 1)) .nil))) (.cons (.asg (.nm 2) (.ix (.lst false (.cons (.c (.int 2)) (.cons (.c (.int 4)) (.cons (.c (.int 9)) (.cons (.c (.int 1000)) .nil))))) (.own false "_law_draw" (.cons (.v 0) (.cons (.c (.int 4)) .nil))))) (.cons (.asg (.nm 3) L__law_mind_c0) (.cons (.ife (.cmp .eq (.v 4) (.c (.int 0))) (.cons (.asg (.nm 6) L__law_mind_c1) (.cons (.asg (.nm 3) L__law_mind_c3) .nil)) .nil) (.cons (.ife (.cmp .eq (.v 4) (.c (.int 1))) (.cons (.asg (.nm 3) L__law_mind_c4) .nil) .nil) (.cons (.ife (.not (.bi false .any (.cons L__law_mind_c5 .nil))) (.cons (.setix (.v 3) (.own false "_law_draw" (.cons (.v 0) (.cons (.v 5) .nil))) (.c (.int 0))) .nil) .nil) (.cons (.ret (.tup (.cons (.v 1) (.cons (.own false "_law_settled" (.cons (.v 3) .nil)) .nil)))) .nil)))))))
theorem tb__law_mind : tab.tb "_law_mind" = some ⟨2, 10, L__law_mind⟩ := by kernel_rfl
def L__law_held_c0 : E := .comp false (.v 1) [1] (.nm 1) (.rng (.cons (.bi false .len (.cons (.ix (.v 0) (.c (.int 1))) .nil)) .nil)) (.cons (.cmp .eq (.ix (.ix (.v 0) (.c (.int 1))) (.v 1)) (.c (.int 0))) .nil)
def L__law_held : Ss := (.cons (.ret (.bi false .tuple (.cons L__law_held_c0 .nil))) .nil)
theorem tb__law_held : tab.tb "_law_held" = some ⟨1, 2, L__law_held⟩ := by kernel_rfl
def L__law_no_mind : Ss := (.cons (.asg (.tp (.cons (.nm 3) (.cons (.nm 4) .nil))) (.v 1)) (.cons (.asg (.nm 2) (.lst false (.cons (.c .non) (.cons (.tup (.cons (.v 3) .nil)) (.cons (.lst false (.cons (.v 3) (.cons (.v 4) .nil))) (.cons (.tup (.cons (.v 3) (.cons (.v 4) (.cons (.c (.int 0)) .nil)))) (.cons (.tup (.cons (.v 3) (.cons (.bi false .list (.cons (.v 4) .nil)) .nil))) (.cons (.tup (.cons (.v 3) (.cons (.bin false .add (.v 4) (.tup (.cons (.c (.int 0)) .nil))) .nil))) (.cons (.tup (.cons (.v 3) (.cons (.sl false (.v 4) (.some (.c (.int 1))) .none) .nil))) (.cons (.c (.str "mind")) (.cons (.c (.int 0)) .nil))))))))))) (.cons (.asg (.nm 2) (.bin false .add (.v 2) (.lst false (.cons (.tup (.cons (.c (.int 0)) (.cons (.tup (.cons (.c (.int 0)) .nil)) .nil))) (.cons (.tup (.cons (.c (.int 7)) (.cons (.bin false .mul (.tup (.cons (.c (.int 0)) .nil)) (.c (.int 128))) .nil))) (.cons (.tup (.cons (.c (.bl true)) (.cons (.v 4) .nil))) (.cons (.tup (.cons (.v 3) (.cons (.bin false .mul (.tup (.cons (.c .non) .nil)) (.bi false .len (.cons (.v 4) .nil))) .nil))) (.cons (.tup (.cons (.v 3) (.cons (.bin false .mul (.tup (.cons (.c (.int 1)) .nil)) (.bi false .len (.cons (.v 4) .nil))) .nil))) (.cons (.tup (.cons (.v 3) (.cons (.bin false .add (.tup (.cons (.un .neg (.c (.int 1))) .nil)) (.sl false (.v 4) (.some (.c (.int 1))) .none)) .nil))) .nil))))))))) (.cons (.ret (.own false "_law_some" (.cons (.v 0) (.cons (.bin false .add (.v 2) (.lst false (.cons (.tup (.cons (.v 3) (.cons (.bin false .add (.tup (.cons (.bin false .add (.bin false .pow (.c (.int 10)) (.c (.int 6))) (.c (.int 1))) .nil)) (.bin false .mul (.tup (.cons (.c (.int 0)) .nil)) (.bin false .sub (.bi false .len (.cons (.v 4) .nil)) (.c (.int 1))))) .nil))) (.cons (.tup (.cons (.v 3) (.cons (.bin false .mul (.tup (.cons (.c (.bl true)) .nil)) (.bi false .len (.cons (.v 4) .nil))) .nil))) (.cons (.tup (.cons (.v 3) (.cons (.bin false .mul (.tup (.cons (.c (.str "0")) .nil)) (.bi false .len (.cons (.v 4) .nil))) .nil))) .nil))))) .nil)))) .nil))))
theorem tb__law_no_mind : tab.tb "_law_no_mind" = some ⟨2, 5, L__law_no_mind⟩ := by kernel_rfl
def L__law_no_lot : Ss := (.cons (.ret (.own false "_law_some" (.cons (.v 0) (.cons (.lst false (.cons (.c .non) (.cons (.lst false (.cons (.c (.int 0)) .nil)) (.cons (.tup (.cons (.v 1) .nil)) (.cons (.tup (.cons (.un .neg (.c (.int 1))) .nil)) (.cons (.tup (.cons (.c (.int 0)) (.cons (.c (.int 0)) .nil))) (.cons (.tup (.cons (.c .non) .nil)) (.cons (.tup (.cons (.c (.bl true)) .nil)) (.cons (.c (.str "0")) (.cons (.tup (.cons (.c (.str "0")) .nil)) (.cons (.c (.int 0)) (.cons (.ite (.cmp .gt (.v 1) (.c (.int 1))) (.tup (.cons (.c (.int 1)) (.cons (.c (.int 0)) .nil))) (.tup (.cons (.v 1) .nil))) (.cons (.dct0 false) .nil))))))))))))) .nil)))) .nil)
theorem tb__law_no_lot : tab.tb "_law_no_lot" = some ⟨2, 2, L__law_no_lot⟩ := by kernel_rfl
def L__law_lesser : Ss := (.cons (.ife (.or (.isN false (.v 0)) (.isN false (.v 1))) (.cons (.ret (.ite (.isN false (.v 0)) (.v 1) (.v 0))) .nil) .nil) (.cons (.ret (.bi false .min (.cons (.v 0) (.cons (.v 1) .nil)))) .nil))
theorem tb__law_lesser : tab.tb "_law_lesser" = some ⟨2, 2, L__law_lesser⟩ := by kernel_rfl
def L__law_gap_c0 : E := .comp false (.v 3) [3] (.nm 3) (.rng (.cons (.v 0) .nil)) (.cons (.cmp .ne (.bin false .mod (.bi false .int (.cons (.bin false .fdiv (.v 1) (.bin false .shl (.c (.int 1)) (.v 3))) .nil)) (.c (.int 2))) (.bin false .mod (.bi false .int (.cons (.bin false .fdiv (.v 2) (.bin false .shl (.c (.int 1)) (.v 3))) .nil)) (.c (.int 2)))) .nil)
def L__law_gap : Ss := (.cons (.ret L__law_gap_c0) .nil)
theorem tb__law_gap : tab.tb "_law_gap" = some ⟨3, 4, L__law_gap⟩ := by kernel_rfl
def L__law_nearer_c0 : E := .comp false (.cmp .inn (.v 4) (.v 2)) [4] (.nm 4) (.seq (.v 1)) .nil
def L__law_nearer : Ss := (.cons (.ife (.cmp .eq (.v 3) (.c (.str "letters"))) (.cons (.ret (.cmp .lt (.bi false .len (.cons (.v 1) .nil)) (.bi false .len (.cons (.v 2) .nil)))) .nil) .nil) (.cons (.ret (.and (.cmp .lt (.bi false .len (.cons (.v 1) .nil)) (.bi false .len (.cons (.v 2) .nil))) (.bi false .all (.cons L__law_nearer_c0 .nil)))) .nil))
theorem tb__law_nearer : tab.tb "_law_nearer" = some ⟨4, 5, L__law_nearer⟩ := by kernel_rfl
def L__law_nearest_c0 : E := .comp false (.own false "_law_gap" (.cons (.v 0) (.cons (.v 1) (.cons (.v 5) .nil)))) [5] (.nm 5) (.seq (.v 2)) .nil
def L__law_nearest_c1 : E := .comp false (.own false "_law_nearer" (.cons (.v 0) (.cons (.v 7) (.cons (.ix (.v 4) (.v 6)) (.cons (.v 3) .nil))))) [7] (.nm 7) (.seq (.v 4)) .nil
def L__law_nearest_c2 : E := .comp false (.ix (.v 2) (.v 6)) [6] (.nm 6) (.rng (.cons (.bi false .len (.cons (.v 2) .nil)) .nil)) (.cons (.not (.bi false .any (.cons L__law_nearest_c1 .nil))) .nil)
def L__law_nearest : Ss := (.cons (.asg (.nm 4) L__law_nearest_c0) (.cons (.ret (.bi false .tuple (.cons L__law_nearest_c2 .nil))) .nil))
theorem tb__law_nearest : tab.tb "_law_nearest" = some ⟨4, 8, L__law_nearest⟩ := by kernel_rfl
def L__law_moved_b0 : Ss := (.cons (.asg (.nm 4) (.bin false .add (.v 4) (.bi false .list (.cons (.own false "_law_nearest" (.cons (.v 0) (.cons (.v 5) (.cons (.v 2) (.cons (.v 3) .nil))))) .nil)))) .nil)
def L__law_moved_f1 : S := .for_ (.nm 5) (.seq (.v 1)) L__law_moved_b0
def L__law_moved : Ss := (.cons (.asg (.nm 4) (.lst false .nil)) (.cons L__law_moved_f1 (.cons (.ret (.bi false .tuple (.cons (.bi false .sortset (.cons (.v 4) .nil)) .nil))) .nil)))
theorem tb__law_moved : tab.tb "_law_moved" = some ⟨4, 6, L__law_moved⟩ := by kernel_rfl
def L__law_both_c0 : E := .comp false (.tup (.cons (.v 1) (.cons (.v 8) .nil))) [8] (.nm 8) (.seq (.own false "_law_nearest" (.cons (.v 0) (.cons (.v 1) (.cons (.v 3) (.cons (.v 4) .nil)))))) .nil
def L__law_both_c1 : E := .comp false (.tup (.cons (.v 2) (.cons (.v 8) .nil))) [8] (.nm 8) (.seq (.own false "_law_nearest" (.cons (.v 0) (.cons (.v 2) (.cons (.v 3) (.cons (.v 4) .nil)))))) .nil
def L__law_both_c2 : E := .comp false (.own false "_law_gap" (.cons (.v 0) (.cons (.ix (.v 7) (.c (.int 0))) (.cons (.ix (.v 7) (.c (.int 1))) .nil)))) [7] (.nm 7) (.seq (.v 5)) .nil
def L__law_both_c3 : E := .comp false (.own false "_law_nearer" (.cons (.v 0) (.cons (.v 10) (.cons (.ix (.v 6) (.v 9)) (.cons (.v 4) .nil))))) [10] (.nm 10) (.seq (.v 6)) .nil
def L__law_both_c4 : E := .comp false (.ix (.ix (.v 5) (.v 9)) (.c (.int 1))) [9] (.nm 9) (.rng (.cons (.bi false .len (.cons (.v 5) .nil)) .nil)) (.cons (.not (.bi false .any (.cons L__law_both_c3 .nil))) .nil)
def L__law_both : Ss := (.cons (.asg (.nm 5) (.bin false .add L__law_both_c0 L__law_both_c1)) (.cons (.asg (.nm 6) L__law_both_c2) (.cons (.ret (.bi false .tuple (.cons (.bi false .sortset (.cons L__law_both_c4 .nil)) .nil))) .nil)))
theorem tb__law_both : tab.tb "_law_both" = some ⟨5, 11, L__law_both⟩ := by kernel_rfl
def L__law_first_b0 : Ss := (.cons (.ife (.cmp .ne (.own false "_law_moved" (.cons (.v 0) (.cons (.tup (.cons (.v 3) (.cons (.v 4) .nil))) (.cons (.v 1) (.cons (.v 2) .nil))))) (.own false "_law_both" (.cons (.v 0) (.cons (.v 3) (.cons (.v 4) (.cons (.v 1) (.cons (.v 2) .nil))))))) (.cons (.ret (.tup (.cons (.v 3) (.cons (.v 4) .nil)))) .nil) .nil) .nil)
def L__law_first_f1 : S := .for_ (.nm 4) (.rng (.cons (.bin false .add (.v 3) (.c (.int 1))) (.cons (.bin false .shl (.c (.int 1)) (.v 0)) .nil))) L__law_first_b0
def L__law_first_b2 : Ss := (.cons L__law_first_f1 .nil)
def L__law_first_f3 : S := .for_ (.nm 3) (.rng (.cons (.bin false .shl (.c (.int 1)) (.v 0)) .nil)) L__law_first_b2
def L__law_first : Ss := (.cons L__law_first_f3 (.cons (.ret (.c .non)) .nil))
theorem tb__law_first : tab.tb "_law_first" = some ⟨3, 5, L__law_first⟩ := by kernel_rfl
def L__law_refusal : Ss := (.cons (.try_ (.cons (.ife (.cmp .eq (.v 0) (.c (.int 0))) (.cons (.expr (.own false "nearest" (.cons (.v 1) (.cons (.v 2) (.cons (.v 3) (.cons (.v 4) .nil)))))) .nil) (.cons (.ife (.cmp .eq (.v 0) (.c (.int 1))) (.cons (.expr (.own false "moved" (.cons (.v 1) (.cons (.v 2) (.cons (.v 3) (.cons (.v 4) .nil)))))) .nil) (.cons (.ife (.cmp .eq (.v 0) (.c (.int 2))) (.cons (.expr (.own false "first_unlike" (.cons (.v 1) (.cons (.v 3) (.cons (.v 4) .nil))))) .nil) (.cons (.expr (.own false "kept_up" (.cons (.v 1) (.cons (.v 3) (.cons (.v 4) .nil))))) .nil)) .nil)) .nil)) .nil) (.cons "NoLetters" (some 5) (.lst false (.cons (.c (.str "letters")) .nil)) (.cons "NoMind" (some 5) (.lst false (.cons (.c (.str "mind")) .nil)) (.cons "NoLot" (some 5) (.lst false (.cons (.c (.str "lot")) .nil)) (.cons "NoWord" (some 5) (.lst false (.cons (.c (.str "word")) .nil)) (.cons "NoWorld" (some 5) (.lst false (.cons (.c (.str "world")) .nil)) (.cons "MindError" none (.lst false (.cons (.c (.str "other")) .nil)) .nil))))))) (.cons (.ret (.lst false (.cons (.c (.str "none")) .nil))) .nil))
theorem tb__law_refusal : tab.tb "_law_refusal" = some ⟨5, 6, L__law_refusal⟩ := by kernel_rfl
def L_law_b0 : Ss := (.cons (.setix (.v 4) (.v 16) (.own false "_law_lesser" (.cons (.ix (.v 4) (.v 16)) (.cons (.ix (.ix (.v 14) (.c (.int 1))) (.v 5)) .nil)))) .nil)
def L_law_f1 : S := .for_ (.nm 16) (.seq (.own false "_law_nearest" (.cons (.v 3) (.cons (.v 5) (.cons (.v 15) (.cons (.v 10) .nil)))))) L_law_b0
def L_law_b2 : Ss := (.cons L_law_f1 .nil)
def L_law_f3 : S := .for_ (.nm 5) (.rng (.cons (.v 9) .nil)) L_law_b2
def L_law_c4 : E := .comp false (.own false "_law_draw" (.cons (.v 1) (.cons (.c (.int 2)) .nil))) [5] (.nm 5) (.seq (.v 12)) .nil
def L_law_c5 : E := .comp false (.ix (.v 12) (.v 21)) [21] (.nm 21) (.rng (.cons (.bi false .len (.cons (.v 12) .nil)) .nil)) (.cons (.cmp .eq (.ix (.v 7) (.v 21)) (.c (.int 0))) .nil)
def L_law_c6 : E := .comp false (.ix (.v 12) (.v 21)) [21] (.nm 21) (.rng (.cons (.bi false .len (.cons (.v 12) .nil)) .nil)) (.cons (.cmp .eq (.ix (.v 7) (.v 21)) (.c (.int 1))) .nil)
def L_law_b7 : Ss := (.cons (.ife (.cmp .ne (.own false "_law_refusal" (.cons (.v 8) (.cons (.own false "_law_some" (.cons (.v 1) (.cons (.lst false (.cons (.c (.int 0)) (.cons (.c (.int 7)) (.cons (.c .non) (.cons (.c (.bl true)) (.cons (.c (.str "1")) .nil)))))) .nil))) (.cons (.c .non) (.cons (.c .non) (.cons (.c .non) .nil)))))) (.lst false (.cons (.c (.str "letters")) .nil))) (.cons (.ret (.c (.bl false))) .nil) .nil) (.cons (.ife (.cmp .ne (.own false "_law_refusal" (.cons (.v 8) (.cons (.v 3) (.cons (.ite (.cmp .eq (.v 8) (.c (.int 0))) (.v 13) (.v 12)) (.cons (.v 20) (.cons (.c .non) .nil)))))) (.lst false (.cons (.c (.str "lot")) .nil))) (.cons (.ret (.c (.bl false))) .nil) .nil) (.cons (.ife (.cmp .ne (.own false "_law_refusal" (.cons (.v 8) (.cons (.v 3) (.cons (.ite (.cmp .eq (.v 8) (.c (.int 0))) (.v 13) (.v 12)) (.cons (.v 11) (.cons (.v 19) .nil)))))) (.lst false (.cons (.c (.str "word")) .nil))) (.cons (.ret (.c (.bl false))) .nil) .nil) .nil)))
def L_law_f8 : S := .for_ (.nm 8) (.rng (.cons (.c (.int 3)) .nil)) L_law_b7
def L_law_b9 : Ss := (.cons (.asg (.nm 3) (.bin false .add (.c (.int 1)) (.own false "_law_draw" (.cons (.v 1) (.cons (.c (.int 4)) .nil))))) (.cons (.par [9, 10] (.cons (.bin false .shl (.c (.int 1)) (.v 3)) (.cons (.own false "_law_some" (.cons (.v 1) (.cons (.lst false (.cons (.c (.str "letters")) (.cons (.c (.str "lots")) .nil))) .nil))) .nil))) (.cons (.asg (.tp (.cons (.nm 11) (.cons (.nm 12) (.cons (.nm 13) .nil)))) (.tup (.cons (.own false "_law_lot" (.cons (.v 1) (.cons (.v 9) .nil))) (.cons (.own false "_law_lot" (.cons (.v 1) (.cons (.v 9) .nil))) (.cons (.own false "_law_draw" (.cons (.v 1) (.cons (.v 9) .nil))) .nil))))) (.cons (.ife (.not (.own false "_law_kept" (.cons (.own false "nearest" (.cons (.v 3) (.cons (.v 13) (.cons (.v 11) (.cons (.v 10) .nil))))) (.cons (.own false "_law_nearest" (.cons (.v 3) (.cons (.v 13) (.cons (.v 11) (.cons (.v 10) .nil))))) .nil)))) (.cons (.ret (.c (.bl false))) .nil) .nil) (.cons (.ife (.not (.own false "_law_kept" (.cons (.own false "moved" (.cons (.v 3) (.cons (.v 12) (.cons (.v 11) (.cons (.v 10) .nil))))) (.cons (.own false "_law_moved" (.cons (.v 3) (.cons (.v 12) (.cons (.v 11) (.cons (.v 10) .nil))))) .nil)))) (.cons (.ret (.c (.bl false))) .nil) .nil) (.cons (.ife (.and (.cmp .lt (.v 3) (.c (.int 4))) (.not (.own false "_law_kept" (.cons (.own false "first_unlike" (.cons (.v 3) (.cons (.v 11) (.cons (.v 10) .nil)))) (.cons (.own false "_law_first" (.cons (.v 3) (.cons (.v 11) (.cons (.v 10) .nil)))) .nil))))) (.cons (.ret (.c (.bl false))) .nil) .nil) (.cons (.par [14, 15] (.cons (.own false "_law_mind" (.cons (.v 1) (.cons (.v 3) .nil))) (.cons (.own false "_law_full_lot" (.cons (.v 1) (.cons (.v 9) .nil))) .nil))) (.cons (.asg (.nm 4) (.bin true .mul (.lst true (.cons (.c .non) .nil)) (.v 9))) (.cons L_law_f3 (.cons (.asg (.nm 6) (.own false "kept_up" (.cons (.v 14) (.cons (.v 15) (.cons (.v 10) .nil))))) (.cons (.ife (.or (.not (.own false "_law_kept" (.cons (.v 6) (.cons (.tup (.cons (.v 3) (.cons (.own false "_law_settled" (.cons (.v 4) .nil)) .nil))) .nil)))) (.cmp .ne (.own false "held_lot" (.cons (.v 6) .nil)) (.own false "_law_moved" (.cons (.v 3) (.cons (.own false "_law_held" (.cons (.v 14) .nil)) (.cons (.v 15) (.cons (.v 10) .nil))))))) (.cons (.ret (.c (.bl false))) .nil) .nil) (.cons (.asg (.nm 7) (.bi false .tuple (.cons L_law_c4 .nil))) (.cons (.par [17, 18] (.cons (.bi false .tuple (.cons L_law_c5 .nil)) (.cons (.bi false .tuple (.cons L_law_c6 .nil)) .nil))) (.cons (.ife (.cmp .ne (.own false "moved" (.cons (.v 3) (.cons (.v 12) (.cons (.v 11) (.cons (.v 10) .nil))))) (.bi false .tuple (.cons (.bi false .sortset (.cons (.bin false .add (.own false "moved" (.cons (.v 3) (.cons (.v 17) (.cons (.v 11) (.cons (.v 10) .nil))))) (.own false "moved" (.cons (.v 3) (.cons (.v 18) (.cons (.v 11) (.cons (.v 10) .nil)))))) .nil)) .nil))) (.cons (.ret (.c (.bl false))) .nil) .nil) (.cons (.par [19, 20] (.cons (.own false "_law_some" (.cons (.v 1) (.cons (.lst false (.cons (.c .non) (.cons (.c (.str "Letters")) (.cons (.c (.str "")) (.cons (.c (.int 0)) (.cons (.lst false (.cons (.c (.str "lots")) .nil)) (.cons (.c (.str "none")) .nil))))))) .nil))) (.cons (.own false "_law_no_lot" (.cons (.v 1) (.cons (.v 9) .nil))) .nil))) (.cons L_law_f8 (.cons (.ife (.or (.cmp .ne (.own false "_law_refusal" (.cons (.c (.int 0)) (.cons (.v 3) (.cons (.own false "_law_some" (.cons (.v 1) (.cons (.lst false (.cons (.un .neg (.c (.int 1))) (.cons (.v 9) (.cons (.c .non) (.cons (.c (.bl true)) (.cons (.c (.str "0")) .nil)))))) .nil))) (.cons (.v 11) (.cons (.c .non) .nil)))))) (.lst false (.cons (.c (.str "lot")) .nil))) (.cmp .ne (.own false "_law_refusal" (.cons (.c (.int 1)) (.cons (.v 3) (.cons (.v 20) (.cons (.v 11) (.cons (.c .non) .nil)))))) (.lst false (.cons (.c (.str "lot")) .nil)))) (.cons (.ret (.c (.bl false))) .nil) .nil) (.cons (.ife (.or (.cmp .ne (.own false "_law_refusal" (.cons (.c (.int 3)) (.cons (.own false "_law_no_mind" (.cons (.v 1) (.cons (.v 14) .nil))) (.cons (.c .non) (.cons (.c .non) (.cons (.c .non) .nil)))))) (.lst false (.cons (.c (.str "mind")) .nil))) (.cmp .ne (.own false "_law_refusal" (.cons (.c (.int 3)) (.cons (.v 14) (.cons (.c .non) (.cons (.v 20) (.cons (.c .non) .nil)))))) (.lst false (.cons (.c (.str "lot")) .nil)))) (.cons (.ret (.c (.bl false))) .nil) .nil) (.cons (.ife (.or (.cmp .ne (.own false "_law_refusal" (.cons (.c (.int 3)) (.cons (.v 14) (.cons (.c .non) (.cons (.v 15) (.cons (.v 19) .nil)))))) (.lst false (.cons (.c (.str "word")) .nil))) (.cmp .ne (.own false "_law_refusal" (.cons (.c (.int 3)) (.cons (.v 14) (.cons (.c .non) (.cons (.tup .nil) (.cons (.v 10) .nil)))))) (.lst false (.cons (.c (.str "world")) .nil)))) (.cons (.ret (.c (.bl false))) .nil) .nil) .nil)))))))))))))))))))
def L_law_f10 : S := .for_ (.nm 2) (.rng (.cons (.c (.int 4)) .nil)) L_law_b9
def L_law : Ss := (.cons (.asg (.nm 1) (.own true "_law_hand" (.cons (.v 0) .nil))) (.cons L_law_f10 (.cons (.ret (.c (.bl true))) .nil)))
theorem tb_law : tab.tb "law" = some ⟨1, 22, L_law⟩ := by kernel_rfl
end K66
set_option Elab.async false
set_option linter.all false
set_option maxRecDepth 100000
set_option maxHeartbeats 4000000
open PySem PI
local macro_rules
  | `(tactic| simp_arith [$ls,*]) => `(tactic| simp -implicitDefEqProofs (disch := first | assumption | omega | decide | (simp only [nr_oD, nr_nD, nr_tN, nr_tO, nr_int, nr_bl, nr_str, nr_non, nr_tup, nr_lst, nr_dct, nrL_nil, nrL_cons, nrL_append, nrL_nD, nrL_oD, nrL_tN, nrL_int, nrL_bl, Bool.and_self, Bool.and_true, Bool.true_and]; done) | (simp only [List.length_map, List.length_append, List.length_cons, List.length_nil, List.length_range, List.length_range', List.length_replicate]; omega)) only [
    List.map_cons, List.map_nil, List.replicate_succ, List.replicate_zero, List.cons_append, List.nil_append, List.getElem?_cons_zero, List.getElem?_cons_succ, List.set_cons_zero, List.set_cons_succ,
    List.length_cons, List.length_nil, List.length_map, List.length_range, List.length_range', List.length_append, Nat.reduceSub, Nat.reduceAdd, List.reduceReplicate, Nat.zero_add, Int.reduceNeg, Int.reduceLT, Int.reduceLE,
    bnd_ok, bnd_err, bnd_ite, ofR_ok, ofR_err, ofR_ite, nx_ok, nx_rt, nx_err, nx_ite, fin_nx, fin_rt, fin_err, fin_ite,
    w_c, slotR_ok, w_v, w_tup, w_lst, w_dct0, w_bin, w_un, w_cmp, w_cmp2, w_isN, w_isB, andR_bl, orR_bl, w_and, w_or, notR_bl, w_not, w_ite, w_ix, w_sl, w_rev, w_bi, w_isi, w_own, w_meth, w_minD, w_nil, w_cons, w_on, intR_int, w_os,
    t_and, t_or, t_not, t_ite, t_cmp, t_cmp2, t_isN, t_isB, t_own, t_bi, t_isi, t_v, t_ix, t_bin, ts_nil, ts_cons, truth_bl, truth_int, truth_non, i_seq, i_rng, i_enum, i_zip,
    s_pass, bindS_some, s_asg, s_par, s_setix, s_aug, augR_add, augR_sub, s_expr, s_ret, s_ife, s_raise, s_try, tryR_ok, tryR_err, ss_nil, ss_cons, nth_0, nth_s,
    compF_st, compO_some, compF2_eq, dcF_st, dcO_some, bT_nm, bT_tp, bTs_nil, bTs_nm, wipe_nil, wipe_cons, setAll_nil, setAll_cons,
    back_same, back_app, backE_same, backE_app, nr_oD, nr_nD, nr_tN, nr_tO, nr_int, nr_bl, nr_str, nr_non, nr_tup, nr_lst, nr_dct, nrL_nil, nrL_cons, nrL_append, nrL_nD, nrL_oD, nrL_tN, nrL_int, nrL_bl, Bool.and_self, Bool.and_true, Bool.true_and, Bool.false_and, Bool.and_false, Bool.or_false, Bool.false_or, Bool.true_or, Bool.or_true,
    nD_ap, oD_some, oD_none, tN_ap, tO_ap, oD_non, newL_f, newL_t, newT_ok, op_add, op_sub, op_mulR, op_mulL, op_fdiv, op_mod, op_pow, op_shl1, op_shr, op_andN, op_and, op_or, op_xor, o_neg, o_inv, op_addT, op_addL, op_mulT,
    c_eq_ii, c_ne_ii, c_eq_oi, c_eq_oo, c_ne_oo, c_eq_bb, c_ne_bb, c_lt, c_le, c_gt, c_ge, c_in, c_ni, in_tN, in_lN, in_nlO, in_dN, ix_tM, ix_lM, ix_t0, ix_t1, ix_t2,
    b_lenT, b_lenL, b_abs, b_int, b_sum, b_sumN, b_min2, b_max2, b_sortDk, b_all, b_any, b_tupL, b_tupT, b_listT, b_listL, asL_end, app_end, src_end, mof_some, asL_lst, toInts_map, minR_map, ty_int, ty_bl, ty_str, ty_tup, ty_lst, ty_non, ty_dct, ty_scr, src_tup, src_lst, rng1, rng2, rng1a, numbered_map, zip_map,
    Int.toNat_natCast, Int.cast_ofNat_Int, eq_self, if_true, if_false, reduceIte, reduceCtorEq, Bool.false_eq_true, decide_true, decide_false, Bool.not_true, Bool.not_false, decide_eq_true_eq, or_self, or_false, false_or, or_true, true_or, and_true, true_and, and_false, false_and, and_self, not_true_eq_false, not_false_eq_true, $ls,*])
  | `(tactic| simp_arith [$ls,*] at $h:ident ⊢) => `(tactic| simp -implicitDefEqProofs (disch := first | assumption | omega | decide | (simp only [nr_oD, nr_nD, nr_tN, nr_tO, nr_int, nr_bl, nr_str, nr_non, nr_tup, nr_lst, nr_dct, nrL_nil, nrL_cons, nrL_append, nrL_nD, nrL_oD, nrL_tN, nrL_int, nrL_bl, Bool.and_self, Bool.and_true, Bool.true_and]; done) | (simp only [List.length_map, List.length_append, List.length_cons, List.length_nil, List.length_range, List.length_range', List.length_replicate]; omega)) only [
    List.map_cons, List.map_nil, List.replicate_succ, List.replicate_zero, List.cons_append, List.nil_append, List.getElem?_cons_zero, List.getElem?_cons_succ, List.set_cons_zero, List.set_cons_succ,
    List.length_cons, List.length_nil, List.length_map, List.length_range, List.length_range', List.length_append, Nat.reduceSub, Nat.reduceAdd, List.reduceReplicate, Nat.zero_add, Int.reduceNeg, Int.reduceLT, Int.reduceLE,
    bnd_ok, bnd_err, bnd_ite, ofR_ok, ofR_err, ofR_ite, nx_ok, nx_rt, nx_err, nx_ite, fin_nx, fin_rt, fin_err, fin_ite,
    w_c, slotR_ok, w_v, w_tup, w_lst, w_dct0, w_bin, w_un, w_cmp, w_cmp2, w_isN, w_isB, andR_bl, orR_bl, w_and, w_or, notR_bl, w_not, w_ite, w_ix, w_sl, w_rev, w_bi, w_isi, w_own, w_meth, w_minD, w_nil, w_cons, w_on, intR_int, w_os,
    t_and, t_or, t_not, t_ite, t_cmp, t_cmp2, t_isN, t_isB, t_own, t_bi, t_isi, t_v, t_ix, t_bin, ts_nil, ts_cons, truth_bl, truth_int, truth_non, i_seq, i_rng, i_enum, i_zip,
    s_pass, bindS_some, s_asg, s_par, s_setix, s_aug, augR_add, augR_sub, s_expr, s_ret, s_ife, s_raise, s_try, tryR_ok, tryR_err, ss_nil, ss_cons, nth_0, nth_s,
    compF_st, compO_some, compF2_eq, dcF_st, dcO_some, bT_nm, bT_tp, bTs_nil, bTs_nm, wipe_nil, wipe_cons, setAll_nil, setAll_cons,
    back_same, back_app, backE_same, backE_app, nr_oD, nr_nD, nr_tN, nr_tO, nr_int, nr_bl, nr_str, nr_non, nr_tup, nr_lst, nr_dct, nrL_nil, nrL_cons, nrL_append, nrL_nD, nrL_oD, nrL_tN, nrL_int, nrL_bl, Bool.and_self, Bool.and_true, Bool.true_and, Bool.false_and, Bool.and_false, Bool.or_false, Bool.false_or, Bool.true_or, Bool.or_true,
    nD_ap, oD_some, oD_none, tN_ap, tO_ap, oD_non, newL_f, newL_t, newT_ok, op_add, op_sub, op_mulR, op_mulL, op_fdiv, op_mod, op_pow, op_shl1, op_shr, op_andN, op_and, op_or, op_xor, o_neg, o_inv, op_addT, op_addL, op_mulT,
    c_eq_ii, c_ne_ii, c_eq_oi, c_eq_oo, c_ne_oo, c_eq_bb, c_ne_bb, c_lt, c_le, c_gt, c_ge, c_in, c_ni, in_tN, in_lN, in_nlO, in_dN, ix_tM, ix_lM, ix_t0, ix_t1, ix_t2,
    b_lenT, b_lenL, b_abs, b_int, b_sum, b_sumN, b_min2, b_max2, b_sortDk, b_all, b_any, b_tupL, b_tupT, b_listT, b_listL, asL_end, app_end, src_end, mof_some, asL_lst, toInts_map, minR_map, ty_int, ty_bl, ty_str, ty_tup, ty_lst, ty_non, ty_dct, ty_scr, src_tup, src_lst, rng1, rng2, rng1a, numbered_map, zip_map,
    Int.toNat_natCast, Int.cast_ofNat_Int, eq_self, if_true, if_false, reduceIte, reduceCtorEq, Bool.false_eq_true, decide_true, decide_false, Bool.not_true, Bool.not_false, decide_eq_true_eq, or_self, or_false, false_or, or_true, true_or, and_true, true_and, and_false, false_and, and_self, not_true_eq_false, not_false_eq_true, $ls,*] at $h:ident ⊢)
  | `(tactic| simp_arith) => `(tactic| simp_arith [bnd_ok])
namespace K66
open PySem PI
variable {sub : Str → Str → Option Bool} {k : Nat} {m : Bool} {st : Store}
/-- a number, no flag -/
def isIntD : D → Bool
  | .int _ => true
  | _ => false
def nref : D → Bool
  | .ref _ => false
  | _ => true
def btw (d : D) (lo hi : Int) : Bool := match d with
  | .int i => decide (lo ≤ i) && decide (i ≤ hi)
  | _ => false
theorem ty_i {d : D} (h : nref d = true) : isTy d .int st = .ok (match d with | .int _ => true | .bl _ => true | _ => false) st := by
  cases d <;> first | rfl | cases h
theorem ty_b {d : D} (h : nref d = true) : isTy d .bool st = .ok (match d with | .bl _ => true | _ => false) st := by
  cases d <;> first | rfl | cases h
theorem ty_t {d : D} (h : nref d = true) : isTy d .tuple st = .ok (match d with | .tup _ => true | _ => false) st := by
  cases d <;> first | rfl | cases h
theorem ty_s {d : D} (h : nref d = true) : isTy d .str st = .ok (match d with | .str _ => true | _ => false) st := by
  cases d <;> first | rfl | cases h
theorem is_integer_ok {d : D} (h : nref d = true) : runF tab.tb sub (k + 1) m "is_integer" [d] st = .ok (.bl (isIntD d)) st := by
  rw [run_eq tb_is_integer rfl (by decide), L_is_integer]
  simp_arith [ty_i h, ty_b h]
  cases d <;> simp_arith [isIntD]
theorem is_between_ok {d : D} {lo hi : Int} (h : nref d = true) : runF tab.tb sub (k + 2) m "is_between" [d, .int lo, .int hi] st = .ok (.bl (btw d lo hi)) st := by
  rw [run_eq tb_is_between rfl (by decide), L_is_between]
  simp_arith [is_integer_ok h]
  cases d <;> simp_arith [isIntD, btw]
  by_cases q : lo ≤ (by assumption : Int) <;> simp [q, back_same, nr_bl]
theorem need_letters_ok {n : Nat} (h : 1 ≤ n) (h2 : n ≤ 6) : runF tab.tb sub (k + 3) m "need_letters" [.int (n : Int)] st = .ok .non st := by
  rw [run_eq tb_need_letters rfl (by decide), L_need_letters]
  have z : btw (.int (n : Int)) 1 6 = true := by simp [btw]; omega
  simp_arith [is_between_ok (d := .int (n : Int)) rfl, z]
theorem many_worlds_ok {n : Nat} (h : n ≤ 1000000) : runF tab.tb sub (k + 1) m "many_worlds" [.int (n : Int)] st = .ok (.int ((2 ^ n : Nat) : Int)) st := by
  rw [run_eq tb_many_worlds rfl (by decide), L_many_worlds]
  simp_arith
/-- ascending, as it is asked -/
def ascB (l : List Int) : Bool := (List.range' 1 (l.length - 1)).all fun i => decide (l[((i : Int) - 1).toNat]! < l[i]!)
def isLotD (many : Nat) : D → Bool
  | .tup l => (match toInts l with
    | some is => (is.all fun i => decide (0 ≤ i) && decide (i ≤ (many : Int) - 1)) && ascB is
    | none => false)
  | _ => false
theorem toInts_some : ∀ {l : List D} {is : List Int}, toInts l = some is → l = is.map .int
  | [], is, h => by rw [toInts] at h; cases h; rfl
  | d :: r, is, h => by
    cases d with
    | int i =>
      rw [toInts] at h
      obtain ⟨js, h1, rfl⟩ := Option.map_eq_some_iff.mp h
      rw [toInts_some h1]; rfl
    | _ => simp [toInts] at h
theorem toInts_none : ∀ {l : List D}, toInts l = none → ∃ d ∈ l, ∀ lo hi, btw d lo hi = false
  | [], h => by rw [toInts] at h; cases h
  | d :: r, h => by
    cases d with
    | int i =>
      rw [toInts] at h
      have h := Option.map_eq_none_iff.mp h
      obtain ⟨d, h1, h2⟩ := toInts_none h
      exact ⟨d, List.mem_cons_of_mem _ h1, h2⟩
    | _ => exact ⟨_, List.mem_cons_self, fun _ _ => rfl⟩
theorem lot_c0 {n : Nat} (hn : n ≤ 6) {l : List D} (hl : l.length ≤ 1000) (hr : ∀ x ∈ l, nref x = true) {a b : Option D} :
    evE ⟨runF tab.tb sub (k + 3), sub⟩ L_is_lot_of_c0 [some (.int (n : Int)), some (.tup l), a, b] st = .ok (.lst ((l.map fun d => btw d 0 (((2 ^ n : Nat) : Int) - 1)).map .bl)) st := by
  refine comp_m (fun d : D => d) (fun d => btw d 0 (((2 ^ n : Nat) : Int) - 1)) .bl (src := ⟨[], l, false⟩) (l := l) (by simp_arith) (by simp) rfl (by omega) (fun d hd => ?_)
  simp_arith [many_worlds_ok (show n ≤ 1000000 by omega), is_between_ok (hr d hd)]
theorem lot_c1 {is : List Int} (hl : is.length ≤ 1000) {a b c : Option D} :
    evE ⟨runF tab.tb sub (k + 3), sub⟩ L_is_lot_of_c1 [c, some (.tup (is.map .int)), a, b] st = .ok (.lst (((List.range' 1 (is.length - 1)).map fun (i : Nat) => decide (is[((i : Int) - 1).toNat]! < is[i]!)).map .bl)) st := by
  refine comp_m nD (fun (i : Nat) => decide (is[((i : Int) - 1).toNat]! < is[i]!)) .bl (src := ⟨[], (List.range' 1 (is.length - 1)).map nD, true⟩) (by simp_arith) rfl rfl (by simp; omega) (fun i hi => ?_)
  rw [List.mem_range'_1] at hi
  have h1 : (0 : Int) ≤ (i : Int) - 1 := by omega
  have h2 : (i : Int) - 1 < is.length := by omega
  have h3 : (i : Int) < is.length := by omega
  simp_arith [Int.natCast_nonneg]
theorem is_lot_of_ok {n : Nat} (hn : n ≤ 6) {d : D} (h : nref d = true) (hl : ∀ l, d = .tup l → l.length ≤ 1000 ∧ ∀ x ∈ l, nref x = true) :
    runF tab.tb sub (k + 4) m "is_lot_of" [.int (n : Int), d] st = .ok (.bl (isLotD (2 ^ n) d)) st := by
  rw [run_eq tb_is_lot_of rfl (by decide), L_is_lot_of]
  cases d with
  | tup l =>
    obtain ⟨h1, h2⟩ := hl l rfl
    cases e : toInts l with
    | none =>
      obtain ⟨x, hx, hb⟩ := toInts_none e
      have z : (l.map fun d => btw d 0 (((2 ^ n : Nat) : Int) - 1)).all id = false := by
        rw [List.all_eq_false]
        exact ⟨_, List.mem_map_of_mem hx, by rw [hb]; decide⟩
      simp_arith [lot_c0 hn h1 h2, z, isLotD, e]
    | some is =>
      have e2 := toInts_some e
      subst e2
      have z : ((is.map D.int).map fun d => btw d 0 (((2 ^ n : Nat) : Int) - 1)).all id = (is.all fun i => decide (0 ≤ i) && decide (i ≤ ((2 ^ n : Nat) : Int) - 1)) := by
        rw [List.map_map, List.all_map]; rfl
      have z2 : ((List.range' 1 (is.length - 1)).map fun (i : Nat) => decide (is[((i : Int) - 1).toNat]! < is[i]!)).all id = ascB is := by
        rw [List.all_map]; rfl
      rw [List.length_map] at h1
      simp_arith [lot_c0 hn (l := is.map .int) (by simp; omega) h2, lot_c1 h1, z, z2, isLotD, e]
      cases (is.all fun i => decide (0 ≤ i) && decide (i ≤ ((2 ^ n : Nat) : Int) - 1)) <;> simp_arith
  | ref _ => cases h
  | _ => simp_arith [isLotD]
theorem need_lot_ok {n : Nat} (h1 : 1 ≤ n) (hn : n ≤ 6) {d : D} (h : nref d = true) (hl : ∀ l, d = .tup l → l.length ≤ 1000 ∧ ∀ x ∈ l, nref x = true) :
    runF tab.tb sub (k + 5) m "need_lot" [.int (n : Int), d] st = if isLotD (2 ^ n) d = true then .ok .non st else .err "NoLot" [] st := by
  rw [run_eq tb_need_lot rfl (by decide), L_need_lot]
  simp_arith [need_letters_ok h1 hn, is_lot_of_ok hn h hl]
  cases isLotD (2 ^ n) d <;> simp_arith
def okN : Nat → D → Bool
  | 0, d => nref d
  | n + 1, d => nref d && (match d with
    | .tup l => decide (l.length ≤ 1000) && l.all (okN n)
    | _ => true)
theorem okN_ref {n : Nat} {d : D} (h : okN n d = true) : nref d = true := by
  cases n with
  | zero => exact h
  | succ n => exact (Bool.and_eq_true_iff.mp h).1
theorem okN_tup {n : Nat} {l : List D} (h : okN (n + 1) (.tup l) = true) : l.length ≤ 1000 ∧ ∀ x ∈ l, okN n x = true := by
  have h := (Bool.and_eq_true_iff.mp (Bool.and_eq_true_iff.mp h).2)
  exact ⟨of_decide_eq_true h.1, List.all_eq_true.mp h.2⟩
/-- ranks, if they are -/
def toOs : List D → Option (List (Option Int))
  | [] => some []
  | .int i :: r => (toOs r).map (some i :: ·)
  | .non :: r => (toOs r).map (none :: ·)
  | _ :: _ => none
theorem toOs_some : ∀ {l : List D} {os : List (Option Int)}, toOs l = some os → l = os.map oD
  | [], os, h => by rw [toOs] at h; cases h; rfl
  | d :: r, os, h => by
    cases d with
    | int i =>
      rw [toOs] at h
      obtain ⟨js, h1, rfl⟩ := Option.map_eq_some_iff.mp h
      rw [toOs_some h1]; rfl
    | non =>
      rw [toOs] at h
      obtain ⟨js, h1, rfl⟩ := Option.map_eq_some_iff.mp h
      rw [toOs_some h1]; rfl
    | _ => simp [toOs] at h
theorem toOs_none : ∀ {l : List D}, toOs l = none → ∃ d ∈ l, d ≠ .non ∧ ∀ lo hi, btw d lo hi = false
  | [], h => by rw [toOs] at h; cases h
  | d :: r, h => by
    cases d with
    | int i =>
      rw [toOs] at h
      obtain ⟨d, h1, h2⟩ := toOs_none (Option.map_eq_none_iff.mp h)
      exact ⟨d, List.mem_cons_of_mem _ h1, h2⟩
    | non =>
      rw [toOs] at h
      obtain ⟨d, h1, h2⟩ := toOs_none (Option.map_eq_none_iff.mp h)
      exact ⟨d, List.mem_cons_of_mem _ h1, h2⟩
    | _ => exact ⟨_, List.mem_cons_self, nofun, fun _ _ => rfl⟩
theorem toOs_map (os : List (Option Int)) : toOs (os.map oD) = some os := by
  induction os with
  | nil => rfl
  | cons o os ih => cases o <;> simp [oD, toOs, ih]
def ranksOk (os : List (Option Int)) : Bool := !(os.filterMap id).isEmpty && ((os.filterMap id).all (fun i => decide (0 ≤ i) && decide (i ≤ 1000000)) && decide (minI (os.filterMap id) = some 0))
def isMindD : D → Bool
  | .tup [.int n, .tup rs] => decide (1 ≤ n) && decide (n ≤ 6) && (decide (rs.length = 2 ^ n.toNat) && (match toOs rs with
    | some os => ranksOk os
    | none => false))
  | _ => false
theorem fm_oD (os : List (Option Int)) : (os.map oD).filter (fun d => !decide (d = .non)) = (os.filterMap id).map .int := by
  induction os with
  | nil => rfl
  | cons o os ih => cases o <;> simp [oD, ih]
theorem mind_c0 {rs : List D} (hl : rs.length ≤ 1000) {a b c d : Option D} : evE ⟨runF tab.tb sub k, sub⟩ L_is_mind_c0 [a, b, c, some (.tup rs), d] st = .ok (.lst (rs.filter fun d => !decide (d = .non))) st := by
  have z := comp_f (F := ⟨runF tab.tb sub k, sub⟩) (ρ := [a, b, c, some (.tup rs), d]) (st := st) (elt := .v 4) (vs := [4]) (tg := .nm 4) (it := .seq (.v 3)) (c := .cons (.isN true (.v 4)) .nil) (src := ⟨[], rs, false⟩) (l := rs) (fun d : D => d) (fun d => !decide (d = .non)) (fun d : D => d) (fun d : D => d) (by simp_arith) (by simp) rfl (by omega) (fun a ha => by simp_arith)
  rw [L_is_mind_c0, z]; simp
theorem mind_c1 {l : List D} (hl : l.length ≤ 1000) (hr : ∀ x ∈ l, nref x = true) {a b c d : Option D} : evE ⟨runF tab.tb sub (k + 2), sub⟩ L_is_mind_c1 [a, some (.lst l), b, c, d] st = .ok (.lst ((l.map fun d => btw d 0 1000000).map .bl)) st := by
  refine comp_m (fun d : D => d) (fun d => btw d 0 1000000) .bl (src := ⟨[], l, true⟩) (l := l) (by simp_arith) (by simp) rfl (by omega) (fun d hd => ?_)
  simp_arith [is_between_ok (hr d hd)]
theorem minI_some : ∀ {l : List Int}, l ≠ [] → ∃ i, minI l = some i
  | [], h => absurd rfl h
  | a :: l, _ => ⟨_, rfl⟩
theorem maxI_some : ∀ {l : List Int}, l ≠ [] → ∃ i, maxI l = some i
  | [], h => absurd rfl h
  | a :: l, _ => ⟨_, rfl⟩
theorem is_mind_ok {d : D} (h : okN 2 d = true) : runF tab.tb sub (k + 3) m "is_mind" [d] st = .ok (.bl (isMindD d)) st := by
  rw [run_eq tb_is_mind rfl (by decide), L_is_mind]
  cases d with
  | tup l =>
    obtain ⟨h1, h2⟩ := okN_tup h
    by_cases hl : l.length = 2
    · obtain ⟨a, b, rfl⟩ : ∃ a b, l = [a, b] := by
        match l, hl with
        | [a, b], _ => exact ⟨a, b, rfl⟩
      have ra := okN_ref (h2 a (by simp))
      have rb := okN_ref (h2 b (by simp))
      simp_arith [is_between_ok ra]
      cases a with
      | int n =>
        by_cases hn : 1 ≤ n ∧ n ≤ 6
        · have z : btw (.int n) 1 6 = true := by simp [btw, hn.1, hn.2]
          obtain ⟨n', rfl⟩ : ∃ n' : Nat, n = n' := ⟨n.toNat, by omega⟩
          simp_arith [z, ty_t rb]
          cases b with
          | tup rs =>
            obtain ⟨h3, h4⟩ := okN_tup (h2 (.tup rs) (by simp))
            have h4 : ∀ x ∈ rs, nref x = true := fun x hx => okN_ref (h4 x hx)
            simp_arith [many_worlds_ok (show n' ≤ 1000000 by omega), isMindD, hn.1, hn.2]
            by_cases hw : rs.length = 2 ^ n'
            · have hw2 : ((rs.length : Nat) : Int) = ((2 ^ n' : Nat) : Int) := by rw [hw]
              have hf := List.length_filter_le (fun d => !decide (d = D.non)) rs
              simp_arith [hw, hw2]
              rw [mind_c0 h3]
              simp_arith
              cases e : toOs rs with
              | none =>
                obtain ⟨x, hx, hx2, hb⟩ := toOs_none e
                have hx3 : x ∈ rs.filter fun d => !decide (d = D.non) := List.mem_filter.mpr ⟨hx, by simp [hx2]⟩
                have z : ((rs.filter fun d => !decide (d = D.non)).map fun d => btw d 0 1000000).all id = false := by
                  rw [List.all_eq_false]
                  exact ⟨_, List.mem_map_of_mem hx3, by rw [hb]; decide⟩
                have z2 : (0 : Int) < (((rs.filter fun d => !decide (d = D.non)).length : Nat) : Int) := by
                  have := List.length_pos_of_mem hx3
                  omega
                simp_arith [z2, mind_c1 (l := rs.filter fun d => !decide (d = D.non)) (by omega) (fun x hx => h4 x ((List.mem_filter.mp hx).1)), z]
              | some os =>
                have e2 := toOs_some e
                subst e2
                rw [fm_oD] at hf ⊢
                rw [List.length_map] at hf h3
                have z : (((os.filterMap id).map D.int).map fun d => btw d 0 1000000).all id = ((os.filterMap id).all fun i => decide (0 ≤ i) && decide (i ≤ 1000000)) := by
                  rw [List.map_map, List.all_map]; rfl
                rw [List.length_map] at hf
                simp_arith [mind_c1 (l := (os.filterMap id).map D.int) (by simp only [List.length_map]; omega) (by intro x hx; obtain ⟨i, _, rfl⟩ := List.mem_map.mp hx; rfl), z, ranksOk]
                generalize os.filterMap id = ts
                by_cases e3 : ts = []
                · subst e3; simp_arith; rfl
                · obtain ⟨j, hj⟩ := minI_some e3
                  have z2 : (0 : Int) < ((ts.length : Nat) : Int) := by
                    have := List.length_pos_iff.mpr e3
                    omega
                  have z3 : ts.isEmpty = false := by cases ts <;> first | rfl | exact absurd rfl e3
                  rw [if_pos z2]
                  cases (ts.all fun i => decide (0 ≤ i) && decide (i ≤ 1000000)) <;> simp_arith [z3, hj, b_min hj, Option.some.injEq]
            · have hw2 : ¬ ((rs.length : Nat) : Int) = ((2 ^ n' : Nat) : Int) := by omega
              simp_arith [hw, hw2]
          | ref _ => cases rb
          | _ => simp_arith [isMindD]
        · have z : btw (.int n) 1 6 = false := by simp [btw]; omega
          have z2 : isMindD (.tup [.int n, b]) = false := by
            cases b <;> simp [isMindD]
            omega
          simp_arith [z, z2]
      | ref _ => cases ra
      | _ => simp_arith [isMindD, btw]
    · have z : isMindD (.tup l) = false := by
        unfold isMindD
        split
        · rename_i q; cases q; exact absurd rfl hl
        · rfl
      have z2 : ¬ ((l.length : Nat) : Int) = 2 := by omega
      simp_arith [z, z2]
  | ref _ => cases h
  | _ => simp_arith [isMindD]
theorem need_mind_ok {d : D} (h : okN 2 d = true) : runF tab.tb sub (k + 4) m "need_mind" [d] st = if isMindD d = true then .ok .non st else .err "NoMind" [] st := by
  rw [run_eq tb_need_mind rfl (by decide), L_need_mind]
  simp_arith [is_mind_ok h]
  cases isMindD d <;> simp_arith
end K66
namespace K66
open PySem PI
variable {sub : Str → Str → Option Bool} {k : Nat} {m : Bool} {st : Store}
/-- the ranks told in a lot -/
def told (os : List (Option Int)) (l : List Nat) : List Int := l.filterMap fun w => os[w]!
def leastW (os : List (Option Int)) (l : List Nat) : List Nat := l.filter fun w => (minI (told os l)).isSome && decide (os[w]! = minI (told os l))
def heldW (os : List (Option Int)) : List Nat := (List.range os.length).filter fun w => decide (os[w]! = some 0)
def lowD (os : List (Option Int)) (lo : Int) : List (Option Int) := os.map (Option.map (· - lo))
def raisedF (os : List (Option Int)) (l : List Nat) (c : Int) : List (Option Int) := (List.range os.length).map fun w => if w ∈ l then os[w]!.map (· + c) else none
def bothF (a b : List (Option Int)) : List (Option Int) := (a.zip b).map fun p => if p.1.isSome then p.1 else p.2
def restW (n : Nat) (l : List Nat) : List Nat := (List.range (2 ^ n)).filter fun w => !decide (w ∈ l)
def natF (os : List (Option Int)) (l : List Nat) : List (Option Int) := (List.range os.length).map fun w => os[w]!.map fun r => if w ∈ leastW os l then 0 else r + 1
theorem tell_c {x : Option Int} : (if (!x.isNone) = true then (Res.ok (some (oD x)) st : Res (Option D)) else .ok none st) = .ok (x.map .int) st := by cases x <;> rfl
theorem settled_ok {x : D} {src : Src} {os : List (Option Int)} {lo hi : Int} (hx : srcOf x st = .ok src st) (hi1 : src.items = os.map oD) (hc : src.chk st = true) (hl : os.length ≤ 1000)
    (h1 : minI (os.filterMap id) = some lo) (h2 : maxI (os.filterMap id) = some hi) (h3 : hi - lo ≤ 1000000) :
    runF tab.tb sub (k + 1) m "settled" [x] st = .ok (.tup ((lowD os lo).map oD)) st := by
  rw [run_eq tb_settled rfl (by decide), L_settled]
  have c0 {a b c : Option D} : evE ⟨runF tab.tb sub k, sub⟩ L_settled_c0 [some x, a, b, c] st = .ok (.lst ((os.filterMap id).map .int)) st := by
    refine comp_g oD id .int (src := src) (by simp_arith [hx]) hi1 hc (by omega) (fun a ha => ?_)
    simp_arith [tell_c, id]
  have c1 {a c : Option D} : evE ⟨runF tab.tb sub k, sub⟩ L_settled_c1 [some x, a, some (.int lo), c] st = .ok (.lst ((os.map (Option.map (· - lo))).map oD)) st := by
    refine comp_m oD (Option.map (· - lo)) oD (src := src) (by simp_arith [hx]) hi1 hc (by omega) (fun a ha => ?_)
    simp_arith
    cases a <;> simp_arith [Option.isNone, Option.map]
  have z : ¬ (((os.filterMap id).length : Nat) : Int) = 0 := by
    cases e : os.filterMap id with
    | nil => rw [e] at h1; cases h1
    | cons a l => simp only [List.length_cons]; omega
  have z2 : ¬ (1000000 < hi - lo) := by omega
  have hf := List.length_filterMap_le id os
  simp_arith [c0, b_min h1, b_max h2, z, z2, c1, lowD]
theorem held_of_ok {os : List (Option Int)} (hl : os.length ≤ 1000) : runF tab.tb sub (k + 1) m "held_of" [.tup (os.map oD)] st = .ok (.tup ((heldW os).map nD)) st := by
  rw [run_eq tb_held_of rfl (by decide), L_held_of]
  have c0 {b c : Option D} : evE ⟨runF tab.tb sub k, sub⟩ L_held_of_c0 [some (.tup (os.map oD)), b, c] st = .ok (.lst ((((List.range os.length).filter fun w => decide (os[w]! = some 0)).map id).map nD)) st := by
    refine comp_f (fun i => .tup [nD i, oD os[i]!]) (fun w => decide (os[w]! = some 0)) id nD (src := ⟨[], (List.range os.length).map fun i => .tup [nD i, oD os[i]!], true⟩) (by simp_arith) rfl rfl (by simp; omega) (fun a ha => ?_)
    simp_arith [id]
  have hf := List.length_filter_le (fun w => decide (os[w]! = some 0)) (List.range os.length)
  rw [List.length_range] at hf
  simp_arith [c0, List.map_id, heldW]
def partF (n : Nat) (os : List (Option Int)) (l : List Nat) (a gap : Int) : List (Option Int) := match minI (told os (restW n l)) with
  | none => raisedF os l (-a)
  | some b => bothF (raisedF os l (-a)) (raisedF os (restW n l) (gap - b))
theorem restW_lt {n w : Nat} {l : List Nat} (h : w ∈ restW n l) : w < 2 ^ n := List.mem_range.mp (List.mem_filter.mp h).1
theorem restW_len {n : Nat} {l : List Nat} (hn : n ≤ 6) : (restW n l).length ≤ 64 := by
  have hp : 2 ^ n ≤ 64 := Nat.pow_le_pow_right (n := 2) (by decide) hn
  have hf := List.length_filter_le (fun w => !decide (w ∈ l)) (List.range (2 ^ n))
  rw [List.length_range] at hf
  exact Nat.le_trans hf hp
theorem raisedF_len {os : List (Option Int)} {l : List Nat} {c : Int} : (raisedF os l c).length = os.length := by simp [raisedF]
/-- the keys of the restrained rule -/
def keyR (os : List (Option Int)) (l : List Nat) (w : Nat) : Option (Bool × Int × Bool) := os[w]!.map fun r => if w ∈ leastW os l then (false, 0, false) else (true, r, !decide (w ∈ l))
def okD (o : Option (Bool × Int × Bool)) : D := match o with
  | none => .non
  | some a => kD a
def keysR (os : List (Option Int)) (l : List Nat) : List (Option (Bool × Int × Bool)) := (List.range os.length).map (keyR os l)
def rowR (os : List (Option Int)) (l : List Nat) : List (Bool × Int × Bool) := (once ((keysR os l).filterMap id)).mergeSort leK
def resF (os : List (Option Int)) (l : List Nat) : List (Option Int) := (keysR os l).map (Option.map fun a => (((rowR os l).findIdx fun x => decide (x = a) : Nat) : Int))
theorem nr_okD (o : Option (Bool × Int × Bool)) : (okD o).nr = true := by cases o <;> simp [okD, kD_ap, nr_non, nr_tup, nrL_cons, nrL_nil, nr_bl, nr_int]
theorem rowR_mem {os : List (Option Int)} {l : List Nat} {a : Bool × Int × Bool} : a ∈ rowR os l ↔ some a ∈ keysR os l := by
  unfold rowR
  rw [List.mem_mergeSort, mem_once, List.mem_filterMap]
  constructor
  · rintro ⟨o, h1, h2⟩
    have : o = some a := h2
    rw [← this]; exact h1
  · intro h; exact ⟨_, h, rfl⟩
theorem rowR_nd (os : List (Option Int)) (l : List Nat) : (rowR os l).Nodup := (List.mergeSort_perm _ _).nodup_iff.mpr (nodup_once _)
theorem rowR_len (os : List (Option Int)) (l : List Nat) : (rowR os l).length ≤ os.length := by
  unfold rowR
  rw [List.length_mergeSort]
  refine Nat.le_trans (len_once _) (Nat.le_trans (List.length_filterMap_le _ _) ?_)
  simp [keysR]
end K66
namespace K66
open PySem PI
variable {sub : Str → Str → Option Bool} {k : Nat} {m : Bool} {st : Store}
def mindD (n : Nat) (os : List (Option Int)) : D := .tup [.int (n : Int), .tup (os.map oD)]
theorem mindD_ap (n : Nat) (os : List (Option Int)) : mindD n os = .tup [.int (n : Int), .tup (os.map oD)] := rfl
/-- a right mind -/
structure MindOk (n : Nat) (os : List (Option Int)) : Prop where
  h1 : 1 ≤ n
  h2 : n ≤ 6
  len : os.length = 2 ^ n
  ok : ranksOk os = true
theorem MindOk.le {n : Nat} {os : List (Option Int)} (h : MindOk n os) : os.length ≤ 64 := by
  rw [h.len]; exact Nat.pow_le_pow_right (n := 2) (by decide) h.h2
theorem MindOk.is {n : Nat} {os : List (Option Int)} (h : MindOk n os) : isMindD (mindD n os) = true := by
  have h1 : (1 : Int) ≤ (n : Int) := by have := h.h1; omega
  have h2 : (n : Int) ≤ 6 := by have := h.h2; omega
  unfold mindD isMindD
  simp [h1, h2, h.len, toOs_map, h.ok]
theorem okN_oD (o : Option Int) (n : Nat) : okN n (oD o) = true := by cases o <;> cases n <;> rfl
theorem okN_int (o : Int) (n : Nat) : okN n (.int o) = true := by cases n <;> rfl
theorem okN_row {α : Type} {e : α → D} {l : List α} {n : Nat} (hl : l.length ≤ 1000) (h : ∀ a ∈ l, okN n (e a) = true) : okN (n + 1) (.tup (l.map e)) = true := by
  show (true && (decide ((l.map e).length ≤ 1000) && (l.map e).all (okN n))) = true
  rw [List.length_map, decide_eq_true hl, List.all_map, Bool.true_and, Bool.true_and, List.all_eq_true]
  exact h
theorem okN_lot {l : List Nat} {n : Nat} (hl : l.length ≤ 1000) : okN (n + 1) (.tup (l.map nD)) = true := okN_row hl fun a _ => okN_int _ _
theorem MindOk.okN {n : Nat} {os : List (Option Int)} (h : MindOk n os) : okN 2 (mindD n os) = true := by
  have := h.le
  have z : K66.okN 1 (.tup (os.map oD)) = true := okN_row (by omega) fun a _ => okN_oD _ _
  show (true && (decide (2 ≤ 1000) && ([D.int (n : Int), .tup (os.map oD)].all (K66.okN 1)))) = true
  simp [z, okN_int]
/-- ascending worlds -/
def LotOk (n : Nat) (l : List Nat) : Prop := l.Pairwise (· < ·) ∧ ∀ w ∈ l, w < 2 ^ n
theorem asc_len : ∀ {l : List Nat} {a b : Nat}, l.Pairwise (· < ·) → (∀ w ∈ l, a ≤ w ∧ w < b) → l.length ≤ b - a
  | [], _, _, _, _ => by simp
  | x :: r, a, b, h, hb => by
    rw [List.pairwise_cons] at h
    have h1 := hb x List.mem_cons_self
    have := asc_len (a := x + 1) (b := b) h.2 (fun w hw => ⟨h.1 w hw, (hb w (List.mem_cons_of_mem _ hw)).2⟩)
    rw [List.length_cons]; omega
theorem LotOk.le {n : Nat} {l : List Nat} (hn : n ≤ 6) (h : LotOk n l) : l.length ≤ 64 := by
  have h1 := asc_len (a := 0) (b := 2 ^ n) h.1 (fun w hw => ⟨Nat.zero_le _, h.2 w hw⟩)
  have hp : 2 ^ n ≤ 64 := Nat.pow_le_pow_right (n := 2) (by decide) hn
  omega
theorem ascB_iff (l : List Nat) : ascB (l.map fun (n : Nat) => (n : Int)) = decide (l.Pairwise (· < ·)) := by
  rw [Bool.eq_iff_iff, decide_eq_true_eq]
  unfold ascB
  rw [List.all_eq_true]
  have hg : ∀ i, i < l.length → ((l.map fun (n : Nat) => (n : Int)))[i]! = ((l[i]! : Nat) : Int) := by
    intro i hi
    rw [getElem!_pos _ i (by simpa using hi), List.getElem_map, getElem!_pos l i hi]
  constructor
  · intro h
    rw [List.pairwise_iff_getElem]
    intro i j hi hj hij
    have step : ∀ d, ∀ i, i + d + 1 < l.length → l[i]! < l[i + d + 1]! := by
      intro d
      induction d with
      | zero =>
        intro i hi
        have h1 := h (i + 1) (by rw [List.mem_range'_1, List.length_map]; omega)
        rw [decide_eq_true_eq, show (((i + 1 : Nat) : Int) - 1).toNat = i from by omega, hg _ (by omega), hg _ (by omega)] at h1
        exact Int.ofNat_lt.mp h1
      | succ d ih =>
        intro i hi
        have h1 := h (i + d + 1 + 1) (by rw [List.mem_range'_1, List.length_map]; omega)
        rw [decide_eq_true_eq, show (((i + d + 1 + 1 : Nat) : Int) - 1).toNat = i + d + 1 from by omega, hg _ (by omega), hg _ (by omega)] at h1
        have h2 := ih i (by omega)
        have h3 := Int.ofNat_lt.mp h1
        show l[i]! < l[i + d + 1 + 1]!
        omega
    have := step (j - i - 1) i (by omega)
    rw [show i + (j - i - 1) + 1 = j from by omega, getElem!_pos l i hi, getElem!_pos l j hj] at this
    exact this
  · intro h i hi
    rw [List.mem_range'_1, List.length_map] at hi
    rw [decide_eq_true_eq, show ((i : Int) - 1).toNat = i - 1 from by omega, hg _ (by omega), hg _ (by omega), getElem!_pos l (i - 1) (by omega), getElem!_pos l i (by omega)]
    have := List.pairwise_iff_getElem.mp h (i - 1) i (by omega) (by omega) (by omega)
    omega
theorem LotOk.is {n : Nat} {l : List Nat} (h : LotOk n l) : isLotD (2 ^ n) (.tup (l.map nD)) = true := by
  unfold isLotD
  dsimp only
  rw [toInts_nD]
  dsimp only
  rw [ascB_iff, decide_eq_true h.1, Bool.and_true, List.all_map, List.all_eq_true]
  intro w hw
  have := h.2 w hw
  simp only [Function.comp]
  rw [Bool.and_eq_true, decide_eq_true_eq, decide_eq_true_eq]
  omega
theorem need_mind_t {n : Nat} {os : List (Option Int)} (h : MindOk n os) : runF tab.tb sub (k + 4) m "need_mind" [mindD n os] st = .ok .non st := by
  rw [need_mind_ok h.okN, h.is, if_pos rfl]
theorem tup_lot {d : D} (h : okN 1 d = true) : ∀ l, d = .tup l → l.length ≤ 1000 ∧ ∀ x ∈ l, nref x = true := by
  rintro l rfl
  obtain ⟨h1, h2⟩ := okN_tup h
  exact ⟨h1, fun x hx => okN_ref (h2 x hx)⟩
theorem need_lot_t {n : Nat} {l : List Nat} (h1 : 1 ≤ n) (h2 : n ≤ 6) (h : LotOk n l) : runF tab.tb sub (k + 5) m "need_lot" [.int (n : Int), .tup (l.map nD)] st = .ok .non st := by
  have := h.le h2
  rw [need_lot_ok h1 h2 rfl (tup_lot (okN_lot (by omega))), h.is, if_pos rfl]
theorem held_lot_ok {n : Nat} {os : List (Option Int)} (h : MindOk n os) : runF tab.tb sub (k + 5) m "held_lot" [mindD n os] st = .ok (.tup ((heldW os).map nD)) st := by
  have := h.le
  have e1 {m : Bool} {k : Nat} {st : Store} := need_mind_t (sub := sub) (k := k) (m := m) (st := st) h
  rw [mindD_ap] at e1 ⊢
  rw [run_eq tb_held_lot rfl (by decide), L_held_lot]
  simp_arith [e1, held_of_ok (os := os) (by omega)]
/-! ### news -/
def rules : List Str := ["natural", "lexicographic", "restrained", "measured"]
def newsD (l : List Nat) (c : Int) : D := .tup [.tup (l.map nD), .int c]
theorem newsD_ap (l : List Nat) (c : Int) : newsD l c = .tup [.tup (l.map nD), .int c] := rfl
def ruleF (n : Nat) (os : List (Option Int)) (l : List Nat) (c a b : Int) (r : Str) : List (Option Int) :=
  if r = "natural" then natF os l else if r = "lexicographic" then partF n os l a (b - a + 1) else if r = "restrained" then resF os l else partF n os l a c
theorem c_rule {r : Str} (hr : r ∈ rules) {s : Str} (hs : s ∈ ("near" : Str) :: rules) : cmpD .eq (.str r) (.str s) st = .ok (decide (r = s)) st := by
  have hp : ∀ x ∈ (("near" : Str) :: rules), PyData.strOk x = true := by decide +kernel
  rw [c_eq (by nofun) (by nofun) (by rw [plain_eq, fit_str]; exact hp r (List.mem_cons_of_mem _ hr)) (by rw [plain_eq, fit_str]; exact hp s hs), eqv_str]
theorem ruleF_len {n : Nat} {os : List (Option Int)} {l : List Nat} {c a b : Int} {r : Str} : (ruleF n os l c a b r).length ≤ os.length := by
  have hp : ∀ g, (partF n os l a g).length ≤ os.length := by
    intro g
    unfold partF
    split
    · simp [raisedF]
    · simp [bothF, raisedF]
  unfold ruleF
  split
  · simp [natF]
  · split
    · exact hp _
    · split
      · simp [resF, keysR]
      · exact hp _
end K66
namespace K66
open PySem PI
variable {sub : Str → Str → Option Bool} {k : Nat} {m : Bool} {st : Store}
/-! ### the hand -/
def handO (cells : List Int) (a : Nat) (b c d : Int) : O := .lst [.lst (cells.map .int), .int (a : Int), .int b, .int c, .int d]
def HandAt (st : Store) (h : Nat) : Prop := ∃ cells a b c d, st[h]? = some (handO cells a b c d)
structure Upd (h : Nat) (st st' : Store) : Prop where
  len : st'.length = st.length
  old : ∀ i, i ≠ h → st'[i]? = st[i]?
  hand : HandAt st' h
theorem handO_nr (cells : List Int) (a : Nat) (b c d : Int) : (handO cells a b c d).nr = true := by
  show D.nrL _ = true
  simp only [nrL_cons, nr_lst, nrL_int, nr_int, nrL_nil, Bool.and_self]
theorem Upd.refl {h : Nat} (hh : HandAt st h) : Upd h st st := ⟨rfl, fun _ _ => rfl, hh⟩
theorem Upd.trans {h : Nat} {s1 s2 s3 : Store} (a : Upd h s1 s2) (b : Upd h s2 s3) : Upd h s1 s3 := ⟨b.len.trans a.len, fun i hi => (b.old i hi).trans (a.old i hi), b.hand⟩
theorem Upd.kept {h : Nat} {s1 s2 : Store} (a : Upd h s1 s2) : Kept s1 s2 := by
  refine ⟨Nat.le_of_eq a.len.symm, fun i hi => ?_⟩
  by_cases q : i = h
  · subst q
    obtain ⟨cells, x, b, c, d, e⟩ := a.hand
    exact .inr ⟨_, e, handO_nr _ _ _ _ _⟩
  · exact .inl (a.old i q)
theorem Upd.back {h : Nat} {s1 s2 : Store} {d : D} (a : Upd h s1 s2) (hd : d.nr = true) : back m s1 s2 d = .ok d s2 := by
  rw [back_d a.kept hd, ← a.len, List.take_length]
theorem set_of_get {st : Store} {h : Nat} {o : O} (e : st[h]? = some o) : st = st.set h o := by
  apply List.ext_getElem?
  intro i
  rw [List.getElem?_set]
  split
  · rename_i q
    subst q
    obtain ⟨h1, _⟩ := List.getElem?_eq_some_iff.mp e
    rw [if_pos h1, e]
  · rfl
theorem Upd.of_set {h : Nat} {cells : List Int} {a : Nat} {b c d : Int} (hh : h < st.length) : Upd h st (st.set h (handO cells a b c d)) :=
  ⟨by simp, fun i hi => by rw [List.getElem?_set_ne (Ne.symm hi)], ⟨cells, a, b, c, d, by rw [List.getElem?_set_self hh]⟩⟩
section
variable {h : Nat} {cells : List Int} {a : Nat} {b c d : Int}
theorem h_get (hh : h < st.length) {o : O} : (st.set h o)[h]? = some o := List.getElem?_set_self hh
theorem h_ix0 (hh : h < st.length) : getIx (.ref h) (.int 0) (st.set h (handO cells a b c d)) = .ok (.lst (cells.map .int)) (st.set h (handO cells a b c d)) := by
  unfold getIx; dsimp only; rw [h_get hh]; rfl
theorem h_ix1 (hh : h < st.length) : getIx (.ref h) (.int 1) (st.set h (handO cells a b c d)) = .ok (.int (a : Int)) (st.set h (handO cells a b c d)) := by
  unfold getIx; dsimp only; rw [h_get hh]; rfl
theorem h_ix2 (hh : h < st.length) : getIx (.ref h) (.int 2) (st.set h (handO cells a b c d)) = .ok (.int b) (st.set h (handO cells a b c d)) := by
  unfold getIx; dsimp only; rw [h_get hh]; rfl
theorem h_ix3 (hh : h < st.length) : getIx (.ref h) (.int 3) (st.set h (handO cells a b c d)) = .ok (.int c) (st.set h (handO cells a b c d)) := by
  unfold getIx; dsimp only; rw [h_get hh]; rfl
theorem h_ix4 (hh : h < st.length) : getIx (.ref h) (.int 4) (st.set h (handO cells a b c d)) = .ok (.int d) (st.set h (handO cells a b c d)) := by
  unfold getIx; dsimp only; rw [h_get hh]; rfl
theorem h_st1 (hh : h < st.length) : setIx (.ref h) (.int 1) (.int ((a : Int) + 1)) (st.set h (handO cells a b c d)) = .ok () (st.set h (handO cells (a + 1) b c d)) := by
  unfold setIx; dsimp only; rw [h_get hh]
  show Res.ok () ((st.set h _).set h _) = _
  rw [List.set_set]; rfl
theorem h_st2 (hh : h < st.length) {x : Int} : setIx (.ref h) (.int 2) (.int x) (st.set h (handO cells a b c d)) = .ok () (st.set h (handO cells a x c d)) := by
  unfold setIx; dsimp only; rw [h_get hh]
  show Res.ok () ((st.set h _).set h _) = _
  rw [List.set_set]; rfl
theorem h_st3 (hh : h < st.length) {x : Int} : setIx (.ref h) (.int 3) (.int x) (st.set h (handO cells a b c d)) = .ok () (st.set h (handO cells a b x d)) := by
  unfold setIx; dsimp only; rw [h_get hh]
  show Res.ok () ((st.set h _).set h _) = _
  rw [List.set_set]; rfl
theorem h_st4 (hh : h < st.length) {x : Int} : setIx (.ref h) (.int 4) (.int x) (st.set h (handO cells a b c d)) = .ok () (st.set h (handO cells a b c x)) := by
  unfold setIx; dsimp only; rw [h_get hh]
  show Res.ok () ((st.set h _).set h _) = _
  rw [List.set_set]; rfl
end
def drawT : Ss := (.cons (.ife (.cmp .gt (.ix (.v 0) (.c (.int 2))) (.c (.int 0))) (.cons (.asg (.nm 4) (.bin false .mod (.bi false .int (.cons (.ix (.v 0) (.c (.int 2))) .nil)) (.v 1))) (.cons (.setix (.v 0) (.c (.int 2)) (.bin false .fdiv (.ix (.v 0) (.c (.int 2))) (.v 1))) (.cons (.ret (.v 4)) .nil))) .nil) (.cons (.setix (.v 0) (.c (.int 4)) (.bin false .add (.ix (.v 0) (.c (.int 4))) (.c (.int 1)))) (.cons (.asg (.nm 2) (.bin false .mod (.bi false .int (.cons (.bin false .mul (.bi false .int (.cons (.bin false .add (.ix (.v 0) (.c (.int 3))) (.bin false .mul (.c (.int 6007)) (.ix (.v 0) (.c (.int 4))))) .nil)) (.c (.int 69621))) .nil)) (.c (.int 2147483629)))) (.cons (.asg (.nm 2) (.bin false .mod (.bi false .int (.cons (.bin false .mul (.v 2) (.bin false .add (.bin false .fdiv (.v 2) (.c (.int 1013))) (.c (.int 48271)))) .nil)) (.c (.int 2147483647)))) (.cons (.asg (.nm 2) (.bin false .mod (.bi false .int (.cons (.bin false .mul (.v 2) (.bin false .add (.bin false .fdiv (.v 2) (.c (.int 2011))) (.c (.int 16807)))) .nil)) (.c (.int 2147483587)))) (.cons (.ret (.bin false .mod (.bi false .int (.cons (.bin false .fdiv (.v 2) (.c (.int 32))) .nil)) (.v 1))) .nil))))))
def drawF : S := (.ife (.and (.cmp .eq (.ix (.v 0) (.c (.int 2))) (.c (.int 0))) (.cmp .lt (.ix (.v 0) (.c (.int 1))) (.bi false .len (.cons (.ix (.v 0) (.c (.int 0))) .nil)))) (.cons (.asg (.nm 3) (.ix (.ix (.v 0) (.c (.int 0))) (.ix (.v 0) (.c (.int 1))))) (.cons (.setix (.v 0) (.c (.int 1)) (.bin false .add (.ix (.v 0) (.c (.int 1))) (.c (.int 1)))) (.cons (.setix (.v 0) (.c (.int 3)) (.bin false .mod (.bi false .int (.cons (.bin false .add (.bin false .add (.bin false .mul (.ix (.v 0) (.c (.int 3))) (.c (.int 48271))) (.v 3)) (.c (.int 11))) .nil)) (.c (.int 2147483647)))) (.cons (.ife (.cmp .ge (.v 3) (.bin false .pow (.c (.int 10)) (.c (.int 18)))) (.cons (.setix (.v 0) (.c (.int 2)) (.v 3)) .nil) .nil) .nil)))) .nil)
theorem draw_split : L__law_draw = .cons drawF drawT := rfl
theorem draw_ok {h many : Nat} (hh : HandAt st h) (h1 : 0 < many) (h2 : many < 1073741824) :
    ∃ v st', v < many ∧ Upd h st st' ∧ ∀ m k, runF tab.tb sub (k + 1) m "_law_draw" [.ref h, .int (many : Int)] st = .ok (.int ((v : Nat) : Int)) st' := by
  obtain ⟨cells, a, b, c, d, e⟩ := hh
  have hl : h < st.length := (List.getElem?_eq_some_iff.mp e).1
  have e0 := set_of_get e
  have hm : (0 : Int) < (many : Int) := by omega
  have hm2 : (many : Int) < 1073741824 := by omega
  have mp : ∀ x : Int, ∃ v : Nat, v < many ∧ x % (many : Int) = (v : Int) := fun x => by
    have z1 := Int.emod_nonneg x (show (many : Int) ≠ 0 by omega)
    have z2 := Int.emod_lt_of_pos x hm
    exact ⟨(x % many).toNat, by omega, by omega⟩
  have bk : ∀ {m : Bool} {o : D} {c2 : List Int} {a2 : Nat} {b2 c3 d2 : Int}, o.nr = true → back m st (st.set h (handO c2 a2 b2 c3 d2)) o = .ok o (st.set h (handO c2 a2 b2 c3 d2)) := fun hd => (Upd.of_set hl).back hd
  have tail : ∀ (cells : List Int) (a : Nat) (b c d : Int) (x1 x2 x3 : Option D), ∃ v st', v < many ∧ Upd h st st' ∧ ∀ m k, fin m st (evSs ⟨runF tab.tb sub k, sub⟩ drawT [some (.ref h), some (.int (many : Int)), x1, x2, x3] (st.set h (handO cells a b c d))) = .ok (.int ((v : Nat) : Int)) st' := by
    intro cells a b c d x1 x2 x3
    by_cases q : 0 < b
    · obtain ⟨v, hv, ev⟩ := mp b
      refine ⟨v, st.set h (handO cells a (b / many) c d), hv, Upd.of_set hl, fun m k => ?_⟩
      simp_arith [drawT, h_ix2 hl, q, h_st2 hl, ev, bk]
    · have s1 : ∀ x : Int, -(2 ^ 64) < x % 2147483629 ∧ x % 2147483629 < 2 ^ 64 := fun x => by omega
      have s2 : ∀ x : Int, -(2 ^ 64) < x % 2147483647 ∧ x % 2147483647 < 2 ^ 64 := fun x => by omega
      have t1 : ∀ (x y : Int) (st : Store), op2 false .mul (.int (x % 2147483629)) (.int y) st = .ok (.int (x % 2147483629 * y)) st := fun x y st => op_mulL _ _ (s1 x)
      have t2 : ∀ (x y : Int) (st : Store), op2 false .mul (.int (x % 2147483647)) (.int y) st = .ok (.int (x % 2147483647 * y)) st := fun x y st => op_mulL _ _ (s2 x)
      obtain ⟨v, hv, ev⟩ := mp (((c + 6007 * (d + 1)) * 69621 % 2147483629 * ((c + 6007 * (d + 1)) * 69621 % 2147483629 / 1013 + 48271) % 2147483647 * ((c + 6007 * (d + 1)) * 69621 % 2147483629 * ((c + 6007 * (d + 1)) * 69621 % 2147483629 / 1013 + 48271) % 2147483647 / 2011 + 16807) % 2147483587) / 32)
      refine ⟨v, st.set h (handO cells a b c (d + 1)), hv, Upd.of_set hl, fun m k => ?_⟩
      simp_arith [drawT, h_ix2 hl, q, h_ix3 hl, h_ix4 hl, h_st4 hl, t1, t2, ev, bk]
  have fst : ∃ (a' : Nat) (b' c' d' : Int) (x : Option D), ∀ k, evS ⟨runF tab.tb sub k, sub⟩ drawF [some (.ref h), some (.int (many : Int)), none, none, none] (st.set h (handO cells a b c d)) = .ok .nx [some (.ref h), some (.int (many : Int)), none, x, none] (st.set h (handO cells a' b' c' d')) := by
    by_cases q : b = 0 ∧ a < cells.length
    · obtain ⟨q1, q2⟩ := q
      have q3 : (a : Int) < (cells.length : Int) := by omega
      by_cases q4 : (10 : Int) ^ 18 ≤ cells[a]!
      · refine ⟨a + 1, cells[a]!, (c * 48271 + cells[a]! + 11) % 2147483647, d, some (.int cells[a]!), fun k => ?_⟩
        simp_arith [drawF, h_ix0 hl, h_ix1 hl, h_ix2 hl, h_ix3 hl, h_st1 hl, h_st2 hl, h_st3 hl, q1, q3, q4, Int.natCast_nonneg, show (18 : Int).toNat = 18 from rfl]
      · refine ⟨a + 1, b, (c * 48271 + cells[a]! + 11) % 2147483647, d, some (.int cells[a]!), fun k => ?_⟩
        simp_arith [drawF, h_ix0 hl, h_ix1 hl, h_ix2 hl, h_ix3 hl, h_st1 hl, h_st2 hl, h_st3 hl, q1, q3, q4, Int.natCast_nonneg, show (18 : Int).toNat = 18 from rfl]
    · refine ⟨a, b, c, d, none, fun k => ?_⟩
      by_cases q1 : b = 0
      · have q3 : ¬ (a : Int) < (cells.length : Int) := by omega
        simp_arith [drawF, h_ix0 hl, h_ix1 hl, h_ix2 hl, q1, q3]
      · simp_arith [drawF, h_ix0 hl, h_ix1 hl, h_ix2 hl, q1]
  obtain ⟨a', b', c', d', x, hf⟩ := fst
  obtain ⟨v, st', hv, hu, hr⟩ := tail cells a' b' c' d' none x none
  refine ⟨v, st', hv, hu, fun m k => ?_⟩
  rw [← e0] at hf
  rw [run_eq tb__law_draw rfl (by decide), draw_split, ss_cons]
  have z := hf k
  have z2 : ([D.ref h, D.int (many : Int)].map some ++ List.replicate (5 - 2) none) = [some (.ref h), some (.int (many : Int)), none, none, none] := rfl
  rw [z2, z, nx_ok]
  exact hr m k
end K66
namespace K66
open PySem PI
variable {sub : Str → Str → Option Bool} {k : Nat} {m : Bool} {st : Store}
inductive All2 {α β : Type} (R : α → β → Prop) : List α → List β → Prop where
  | nil : All2 R [] []
  | cons {a b l r} : R a b → All2 R l r → All2 R (a :: l) (b :: r)
theorem All2.app {α β : Type} {R : α → β → Prop} : ∀ {l : List α} {r : List β} {a : α} {b : β}, All2 R l r → R a b → All2 R (l ++ [a]) (r ++ [b])
  | _, _, _, _, .nil, h => .cons h .nil
  | _, _, _, _, .cons x y, h => .cons x (y.app h)
theorem All2.some {α β : Type} {P : α → β → Prop} : ∀ {l : List α} {os : List (Option β)}, All2 (fun a o => ∃ v, o = Option.some v ∧ P a v) l os → ∃ vs, All2 P l vs ∧ os.filterMap id = vs
  | _, _, .nil => ⟨[], .nil, rfl⟩
  | _, _, .cons ⟨v, e, p⟩ y => by
    obtain ⟨vs, h1, h2⟩ := y.some
    exact ⟨v :: vs, .cons p h1, by rw [e, List.filterMap_cons]; simp [h2]⟩
theorem All2.len {α β : Type} {R : α → β → Prop} : ∀ {l : List α} {r : List β}, All2 R l r → r.length = l.length
  | _, _, .nil => rfl
  | _, _, .cons _ y => by rw [List.length_cons, List.length_cons, y.len]
theorem All2.mem {α β : Type} {R : α → β → Prop} : ∀ {l : List α} {r : List β}, All2 R l r → ∀ b ∈ r, ∃ a ∈ l, R a b
  | _, _, .nil, _, h => nomatch h
  | _, _, .cons x y, b, h => by
    rcases List.mem_cons.mp h with rfl | h
    · exact ⟨_, List.mem_cons_self, x⟩
    · obtain ⟨a, h1, h2⟩ := y.mem b h
      exact ⟨a, List.mem_cons_of_mem _ h1, h2⟩
theorem All2.subl {α : Type} : ∀ {l : List α} {os : List (Option α)}, All2 (fun a o => o = none ∨ o = Option.some a) l os → (os.filterMap id).Sublist l
  | _, _, .nil => List.Sublist.refl _
  | _, _, .cons x y => by
    rcases x with x | x
    · rw [x, List.filterMap_cons]; exact List.Sublist.cons _ y.subl
    · rw [x, List.filterMap_cons]; exact List.Sublist.cons_cons _ y.subl
theorem comp_draw {F : Cf} {ρ : PI.Env} {α β : Type} {mm : Bool} {elt : E} {vs : List Nat} {tg : T} {it : It} {c : Es} {src : Src} {l : List α} {h : Nat} (e : α → D) (e' : β → D) (R : α → Option β → Prop)
    (hi : evIt F it ρ st = .ok src st) (hm : src.items = l.map e) (hh : HandAt st h) (hc : ∀ s, Upd h st s → src.chk s = true) (hl : l.length ≤ 16777216)
    (hb : ∀ a ∈ l, ∀ s, Upd h st s → ∃ o s', Upd h s s' ∧ R a o ∧ compF F elt vs tg c ρ (e a) s = .ok (o.map e') s') :
    ∃ os st', Upd h st st' ∧ All2 R l os ∧ evE F (.comp mm elt vs tg it c) ρ st = newL mm ((os.filterMap id).map e') st' := by
  obtain ⟨acc, st', h1, h2, os, h3, h4, h5⟩ := compL_inv (e := e) (f := compF F elt vs tg c ρ) (src := src) (fun pre post acc s => Upd h st s ∧ ∃ os : List (Option β), All2 R pre os ∧ acc = (os.filterMap id).map e' ∧ pre ++ post = l) l [] [] st ⟨Upd.refl hh, [], .nil, rfl, rfl⟩
    (fun pre a post acc s hI => by
      obtain ⟨u, os, h1, h2, h3⟩ := hI
      obtain ⟨o, s', u2, r, e1⟩ := hb a (by rw [← h3]; simp) s u
      have hlen : pre.length < l.length := by rw [← h3]; simp
      refine ⟨hc s u, ?_, o.map e', s', e1, u.trans u2, os ++ [o], h1.app r, ?_, by rw [List.append_assoc]; exact h3⟩
      · rw [h2, List.length_map]
        have := List.length_filterMap_le id os
        have := h1.len
        omega
      · rw [h2, List.filterMap_append, List.map_append]
        cases o <;> rfl)
    (fun pre acc s hI => hc s hI.1)
  refine ⟨os, st', h2, by simpa using h3, ?_⟩
  rw [w_comp, hi, bnd_ok, hm, h1, bnd_ok, h4]
theorem some_ok {h : Nat} {l : List D} (hh : HandAt st h) (h1 : 0 < l.length) (h2 : l.length < 1073741824) (hn : ∀ d ∈ l, d.nr = true) :
    ∃ d st', d ∈ l ∧ Upd h st st' ∧ runF tab.tb sub (k + 2) m "_law_some" [.ref h, .lst l] st = .ok d st' := by
  obtain ⟨v, st', hv, hu, hr⟩ := draw_ok (sub := sub) hh h1 h2
  refine ⟨l[v]!, st', ?_, hu, ?_⟩
  · rw [getElem!_pos l v hv]; exact List.getElem_mem _
  rw [run_eq tb__law_some rfl (by decide), L__law_some]
  have z1 : (0 : Int) ≤ (v : Int) := by omega
  have z2 : (v : Int) < (l.length : Int) := by omega
  have z3 : l[v]!.nr = true := by rw [getElem!_pos l v hv]; exact hn _ (List.getElem_mem _)
  simp_arith [hr, ix_lst, hu.back z3]
theorem lot_ok {h n : Nat} (hh : HandAt st h) (hn : n ≤ 6) : ∃ l st', LotOk n l ∧ Upd h st st' ∧ runF tab.tb sub (k + 2) m "_law_lot" [.ref h, .int ((2 ^ n : Nat) : Int)] st = .ok (.tup (l.map nD)) st' := by
  have hp : 2 ^ n ≤ 64 := Nat.pow_le_pow_right (n := 2) (by decide) hn
  obtain ⟨v, s1, hv, hu, hr⟩ := draw_ok (sub := sub) (many := 3) hh (by decide) (by decide)
  have hr := fun m k => hr m k
  obtain ⟨os, s2, hu2, h2, h3⟩ := comp_draw (F := ⟨runF tab.tb sub (k + 1), sub⟩) (ρ := [some (.ref h), some (.int ((2 ^ n : Nat) : Int)), some (.int (1 + (v : Int))), none]) (mm := false) (elt := .v 3) (vs := [3]) (tg := .nm 3) (it := .rng (.cons (.v 1) .nil)) (c := .cons (.cmp .lt (.own false "_law_draw" (.cons (.v 0) (.cons (.c (.int 4)) .nil))) (.v 2)) .nil) (src := ⟨[], (List.range (2 ^ n)).map nD, true⟩) (st := s1) (l := List.range (2 ^ n)) (h := h) nD nD (fun a o => o = none ∨ o = some a) (by simp_arith) rfl hu.hand (fun _ _ => rfl) (by simp; omega)
    (fun a ha s us => by
      obtain ⟨w, s', hw, us', hs⟩ := draw_ok (sub := sub) (many := 4) us.hand (by decide) (by decide)
      have hs : ∀ m k, runF tab.tb sub (k + 1) m "_law_draw" [.ref h, .int 4] s = .ok (.int ((w : Nat) : Int)) s' := fun m k => hs m k
      by_cases q : (w : Int) < 1 + (v : Int)
      · exact ⟨some a, s', us', .inr rfl, by simp_arith [hs, q, Option.map]⟩
      · exact ⟨none, s', us', .inl rfl, by simp_arith [hs, q, Option.map]⟩)
  have hsub := h2.subl
  have hlen : (os.filterMap id).length ≤ 64 := by
    have := hsub.length_le
    rw [List.length_range] at this
    omega
  refine ⟨os.filterMap id, s2, ⟨?_, ?_⟩, hu.trans hu2, ?_⟩
  · exact List.Pairwise.sublist hsub List.pairwise_lt_range
  · intro w hw
    exact List.mem_range.mp (hsub.subset hw)
  · have hr : ∀ m k, runF tab.tb sub (k + 1) m "_law_draw" [.ref h, .int 3] st = .ok (.int ((v : Nat) : Int)) s1 := hr
    have h3 : evE ⟨runF tab.tb sub (k + 1), sub⟩ L__law_lot_c0 [some (.ref h), some (.int ((2 ^ n : Nat) : Int)), some (.int (1 + (v : Int))), none] s1 = newL false ((os.filterMap id).map nD) s2 := h3
    rw [run_eq tb__law_lot rfl (by decide), L__law_lot]
    simp_arith [hr, h3, (hu.trans hu2).back]
theorem full_lot_ok {h n : Nat} (hh : HandAt st h) (hn : n ≤ 6) : ∃ l st', LotOk n l ∧ l ≠ [] ∧ Upd h st st' ∧ runF tab.tb sub (k + 3) m "_law_full_lot" [.ref h, .int ((2 ^ n : Nat) : Int)] st = .ok (.tup (l.map nD)) st' := by
  have hp : 2 ^ n ≤ 64 := Nat.pow_le_pow_right (n := 2) (by decide) hn
  have hp0 : 0 < 2 ^ n := Nat.two_pow_pos n
  obtain ⟨l, s1, hl, hu, hr⟩ := lot_ok (sub := sub) (k := k) (m := false) hh hn
  by_cases q : l = []
  · obtain ⟨v, s2, hv, hu2, hr2⟩ := draw_ok (sub := sub) (many := 2 ^ n) hu.hand hp0 (by omega)
    refine ⟨[v], s2, ⟨by simp, by simpa using hv⟩, by simp, hu.trans hu2, ?_⟩
    subst q
    rw [run_eq tb__law_full_lot rfl (by decide), L__law_full_lot]
    simp_arith [hr, hr2, (hu.trans hu2).back]
  · have z : (0 : Int) < (l.length : Int) := by
      have := List.length_pos_iff.mpr q
      omega
    refine ⟨l, s1, hl, q, hu, ?_⟩
    rw [run_eq tb__law_full_lot rfl (by decide), L__law_full_lot]
    simp_arith [hr, z, hu.back]
end K66
namespace K66
open PySem PI
variable {sub : Str → Str → Option Bool} {k : Nat} {m : Bool} {st : Store}
theorem foldl_min : ∀ (l : List Int) (a : Int), (l.foldl (fun a b => if b < a then b else a) a ∈ a :: l) ∧ (∀ x ∈ a :: l, l.foldl (fun a b => if b < a then b else a) a ≤ x)
  | [], a => by simp
  | b :: l, a => by
    obtain ⟨h1, h2⟩ := foldl_min l (if b < a then b else a)
    rw [List.foldl_cons]
    refine ⟨?_, fun x hx => ?_⟩
    · rcases List.mem_cons.mp h1 with h | h
      · rw [h]; split <;> simp
      · simp [h]
    · have h3 := h2 _ List.mem_cons_self
      have ha : (if b < a then b else a) ≤ a := by split <;> omega
      have hb : (if b < a then b else a) ≤ b := by split <;> omega
      generalize (if b < a then b else a) = c at *
      rcases List.mem_cons.mp hx with rfl | hx
      · omega
      rcases List.mem_cons.mp hx with rfl | hx
      · omega
      · exact h2 x (List.mem_cons_of_mem _ hx)
theorem foldl_max : ∀ (l : List Int) (a : Int), (l.foldl (fun a b => if b > a then b else a) a ∈ a :: l) ∧ (∀ x ∈ a :: l, x ≤ l.foldl (fun a b => if b > a then b else a) a)
  | [], a => by simp
  | b :: l, a => by
    obtain ⟨h1, h2⟩ := foldl_max l (if b > a then b else a)
    rw [List.foldl_cons]
    refine ⟨?_, fun x hx => ?_⟩
    · rcases List.mem_cons.mp h1 with h | h
      · rw [h]; split <;> simp
      · simp [h]
    · have h3 := h2 _ List.mem_cons_self
      have ha : (if b > a then b else a) ≥ a := by split <;> omega
      have hb : (if b > a then b else a) ≥ b := by split <;> omega
      generalize (if b > a then b else a) = c at *
      rcases List.mem_cons.mp hx with rfl | hx
      · omega
      rcases List.mem_cons.mp hx with rfl | hx
      · omega
      · exact h2 x (List.mem_cons_of_mem _ hx)
theorem minI_mem {l : List Int} {i : Int} (h : minI l = some i) : i ∈ l ∧ ∀ x ∈ l, i ≤ x := by
  cases l with
  | nil => cases h
  | cons a l => cases h; exact foldl_min l a
theorem maxI_mem {l : List Int} {i : Int} (h : maxI l = some i) : i ∈ l ∧ ∀ x ∈ l, x ≤ i := by
  cases l with
  | nil => cases h
  | cons a l => cases h; exact foldl_max l a
theorem minI_eq {l : List Int} {i : Int} (h1 : i ∈ l) (h2 : ∀ x ∈ l, i ≤ x) : minI l = some i := by
  obtain ⟨j, hj⟩ := minI_some (l := l) (by rintro rfl; cases h1)
  obtain ⟨q1, q2⟩ := minI_mem hj
  have := h2 j q1
  have := q2 i h1
  rw [hj]; congr 1; omega
theorem maxI_eq {l : List Int} {i : Int} (h1 : i ∈ l) (h2 : ∀ x ∈ l, x ≤ i) : maxI l = some i := by
  obtain ⟨j, hj⟩ := maxI_some (l := l) (by rintro rfl; cases h1)
  obtain ⟨q1, q2⟩ := maxI_mem hj
  have := h2 j q1
  have := q2 i h1
  rw [hj]; congr 1; omega
theorem fm_mem {os : List (Option Int)} {i : Int} : i ∈ os.filterMap id ↔ some i ∈ os := by
  rw [List.mem_filterMap]
  constructor
  · rintro ⟨o, h1, h2⟩
    have : o = some i := h2
    rw [← this]; exact h1
  · intro h; exact ⟨_, h, rfl⟩
/-- ranks within bounds -/
def Bnd (os : List (Option Int)) (lo hi : Int) : Prop := ∀ i, some i ∈ os → lo ≤ i ∧ i ≤ hi
theorem low_ok {n : Nat} {os : List (Option Int)} {lo B : Int} (h1 : 1 ≤ n) (h2 : n ≤ 6) (hl : os.length = 2 ^ n) (h : minI (os.filterMap id) = some lo) (hb : ∀ i, some i ∈ os → i - lo ≤ B) (hB : B ≤ 1000000) : MindOk n (lowD os lo) ∧ Bnd (lowD os lo) 0 B := by
  obtain ⟨q1, q2⟩ := minI_mem h
  have mem : ∀ i, some i ∈ lowD os lo ↔ some (i + lo) ∈ os := by
    intro i
    unfold lowD
    rw [List.mem_map]
    constructor
    · rintro ⟨o, h3, h4⟩
      cases o with
      | none => cases h4
      | some j =>
        have : j - lo = i := Option.some.inj h4
        rw [show i + lo = j from by omega]; exact h3
    · intro h3; exact ⟨_, h3, by simp⟩
  have bnd : Bnd (lowD os lo) 0 B := by
    intro i hi
    have h3 := (mem i).mp hi
    have := q2 _ (fm_mem.mpr h3)
    have := hb _ h3
    omega
  have zero : (0 : Int) ∈ (lowD os lo).filterMap id := fm_mem.mpr ((mem 0).mpr (by rw [Int.zero_add]; exact fm_mem.mp q1))
  refine ⟨⟨h1, h2, by simp [lowD, hl], ?_⟩, bnd⟩
  unfold ranksOk
  rw [minI_eq zero fun x hx => (bnd x (fm_mem.mp hx)).1, decide_eq_true rfl, Bool.and_true, Bool.and_eq_true]
  refine ⟨?_, ?_⟩
  · cases e : (lowD os lo).filterMap id with
    | nil => rw [e] at zero; cases zero
    | cons _ _ => rfl
  · rw [List.all_eq_true]
    intro x hx
    have := bnd x (fm_mem.mp hx)
    rw [Bool.and_eq_true, decide_eq_true_eq, decide_eq_true_eq]
    omega
theorem law_settled_ok {x : D} {src : Src} {os : List (Option Int)} {lo : Int} (hx : srcOf x st = .ok src st) (hi1 : src.items = os.map oD) (hc : src.chk st = true) (hl : os.length ≤ 1000)
    (h1 : minI (os.filterMap id) = some lo) :
    runF tab.tb sub (k + 1) m "_law_settled" [x] st = .ok (.tup ((lowD os lo).map oD)) st := by
  rw [run_eq tb__law_settled rfl (by decide), L__law_settled]
  have c0 {b c : Option D} : evE ⟨runF tab.tb sub k, sub⟩ L__law_settled_c0 [some x, b, c] st = .ok (.lst ((os.filterMap id).map .int)) st := by
    refine comp_g oD id .int (src := src) (by simp_arith [hx]) hi1 hc (by omega) (fun a ha => ?_)
    simp_arith [tell_c, id]
  have c1 {c : Option D} : evE ⟨runF tab.tb sub k, sub⟩ L__law_settled_c1 [some x, some (.int lo), c] st = .ok (.lst ((os.map (Option.map (· - lo))).map oD)) st := by
    refine comp_m oD (Option.map (· - lo)) oD (src := src) (by simp_arith [hx]) hi1 hc (by omega) (fun a ha => ?_)
    simp_arith
    cases a <;> simp_arith [Option.isNone, Option.map]
  simp_arith [c0, b_min h1, c1, lowD]
/-- a call that makes things behind -/
structure Grow (h : Nat) (st s : Store) : Prop where
  lt : h < st.length
  le : st.length ≤ s.length
  old : ∀ i, i < st.length → i ≠ h → s[i]? = st[i]?
  hand : HandAt s h
theorem HandAt.lt {h : Nat} (a : HandAt st h) : h < st.length := by
  obtain ⟨_, _, _, _, _, e⟩ := a
  exact (List.getElem?_eq_some_iff.mp e).1
theorem HandAt.push {h : Nat} (a : HandAt st h) (o : O) : HandAt (st ++ [o]) h := by
  obtain ⟨c, x, y, z, w, e⟩ := a
  exact ⟨c, x, y, z, w, by rw [List.getElem?_append_left ((List.getElem?_eq_some_iff.mp e).1)]; exact e⟩
theorem Grow.refl {h : Nat} (a : HandAt st h) : Grow h st st := ⟨a.lt, Nat.le_refl _, fun _ _ _ => rfl, a⟩
theorem Grow.upd {h : Nat} {s s' : Store} (g : Grow h st s) (u : Upd h s s') : Grow h st s' :=
  ⟨g.lt, by rw [u.len]; exact g.le, fun i h1 h2 => (u.old i h2).trans (g.old i h1 h2), u.hand⟩
theorem Grow.push {h : Nat} {s : Store} (g : Grow h st s) (o : O) : Grow h st (s ++ [o]) :=
  ⟨g.lt, by rw [List.length_append]; exact Nat.le_trans g.le (Nat.le_add_right _ _), fun i h1 h2 => by rw [List.getElem?_append_left (Nat.lt_of_lt_of_le h1 g.le)]; exact g.old i h1 h2, g.hand.push o⟩
theorem Grow.set {h n : Nat} {s : Store} (g : Grow h st s) (hn : st.length ≤ n) (o : O) : Grow h st (s.set n o) :=
  ⟨g.lt, by rw [List.length_set]; exact g.le, fun i h1 h2 => by rw [List.getElem?_set_ne (by omega)]; exact g.old i h1 h2, by
    obtain ⟨c, x, y, z, w, e⟩ := g.hand
    exact ⟨c, x, y, z, w, by rw [List.getElem?_set_ne (by have := g.lt; omega)]; exact e⟩⟩
theorem Grow.kept {h : Nat} {s : Store} (g : Grow h st s) : Kept st s := by
  refine ⟨g.le, fun i hi => ?_⟩
  by_cases q : i = h
  · subst q
    obtain ⟨cells, x, b, c, d, e⟩ := g.hand
    exact .inr ⟨_, e, handO_nr _ _ _ _ _⟩
  · exact .inl (g.old i hi q)
theorem Grow.take {h : Nat} {s : Store} (g : Grow h st s) : Upd h st (s.take st.length) := by
  refine ⟨by rw [List.length_take]; exact Nat.min_eq_left g.le, fun i hi => ?_, ?_⟩
  · by_cases q : i < st.length
    · rw [List.getElem?_take_of_lt q]; exact g.old i q hi
    · rw [List.getElem?_eq_none (by rw [List.length_take]; omega), List.getElem?_eq_none (by omega)]
  · obtain ⟨c, x, y, z, w, e⟩ := g.hand
    exact ⟨c, x, y, z, w, by rw [List.getElem?_take_of_lt g.lt]; exact e⟩
theorem Grow.back {h : Nat} {s : Store} {d : D} (g : Grow h st s) (hd : d.nr = true) : back m st s d = .ok d (s.take st.length) := back_d g.kept hd
/-! ### minds drawn -/
theorem any_some {os : List (Option Int)} : ((os.map fun o => !o.isNone).any id) = os.any Option.isSome := by
  rw [List.any_map]; congr 1; funext o; cases o <;> rfl
theorem src_ref {n : Nat} {l : List D} (e : st[n]? = some (.lst l)) : srcOf (.ref n) st = .ok ⟨[(n, .lst l)], l, true⟩ st := by
  unfold srcOf; dsimp only; rw [e]
theorem chk_ref {n : Nat} {l its : List D} {b : Bool} (e : st[n]? = some (.lst l)) : (⟨[(n, .lst l)], its, b⟩ : Src).chk st = true := by
  unfold Src.chk; simp [e]
theorem set_ref {n v : Nat} {l : List D} {d : D} (e : st[n]? = some (.lst l)) (hv : v < l.length) : setIx (.ref n) (.int ((v : Nat) : Int)) d st = .ok () (st.set n (.lst (l.set v d))) := by
  unfold setIx place; dsimp only; rw [e]; dsimp only
  have z : L2.ixN l.length ((v : Nat) : Int) = some v := by
    unfold L2.ixN
    rw [if_pos (by omega), if_pos (by omega), Int.toNat_natCast]
  rw [z]
theorem exists_min {os : List (Option Int)} (h : os.any Option.isSome = true) : ∃ lo, minI (os.filterMap id) = some lo := by
  refine minI_some ?_
  obtain ⟨o, h1, h2⟩ := List.any_eq_true.mp h
  cases o with
  | none => cases h2
  | some i =>
    intro e
    have := fm_mem.mpr h1
    rw [e] at this; cases this
/-- behind the first lines of _law_mind: ranks stand in a list -/
structure RowAt (h n : Nat) (st s : Store) (r : Nat) (os : List (Option Int)) : Prop where
  g : Grow h st s
  le : st.length ≤ r
  at_ : s[r]? = some (.lst (os.map oD))
  len : os.length = 2 ^ n
  bnd : Bnd os 0 6000
theorem sum_bnd {α : Type} : ∀ {l : List α} {f : α → Int} {B : Int}, (∀ a ∈ l, 0 ≤ f a ∧ f a ≤ B) → 0 ≤ (l.map f).sum ∧ (l.map f).sum ≤ l.length * B
  | [], _, _, _ => by simp
  | a :: l, f, B, h => by
    have h1 := h a List.mem_cons_self
    have h2 := sum_bnd (l := l) (f := f) (B := B) fun b hb => h b (List.mem_cons_of_mem _ hb)
    rw [List.map_cons, List.sum_cons, List.length_cons]
    have : ((l.length + 1 : Nat) : Int) * B = l.length * B + B := by rw [Int.natCast_add, Int.add_mul]; simp
    omega
theorem lm_split : L__law_mind = .cons (L__law_mind.nth 0) (.cons (L__law_mind.nth 1) (.cons (L__law_mind.nth 2) (.cons (L__law_mind.nth 3) (.cons (L__law_mind.nth 4) (.cons (L__law_mind.nth 5) (.cons (L__law_mind.nth 6) .nil)))))) := rfl
theorem lm_0 {h n : Nat} (hn : n ≤ 6) (hh : HandAt st h) : ∃ kind s1, Upd h st s1 ∧ evS ⟨runF tab.tb sub (k + 1), sub⟩ (L__law_mind.nth 0) [some (.ref h), some (.int (n : Int)), none, none, none, none, none, none, none, none] st = .ok .nx [some (.ref h), some (.int (n : Int)), none, none, some (.int ((kind : Nat) : Int)), some (.int ((2 ^ n : Nat) : Int)), none, none, none, none] s1 := by
  obtain ⟨v, s1, hv, hu, hr⟩ := draw_ok (sub := sub) (many := 4) hh (by decide) (by decide)
  have hr : ∀ m k, runF tab.tb sub (k + 1) m "_law_draw" [.ref h, .int 4] st = .ok (.int ((v : Nat) : Int)) s1 := hr
  refine ⟨v, s1, hu, ?_⟩
  rw [L__law_mind]
  simp_arith [hr]
theorem lm_1 {h : Nat} (hh : HandAt st h) {a b c d e f g i : Option D} : ∃ (most : Nat) (s1 : Store), 0 < most ∧ most ≤ 1000 ∧ Upd h st s1 ∧ evS ⟨runF tab.tb sub (k + 1), sub⟩ (L__law_mind.nth 1) [some (.ref h), a, none, b, c, d, e, f, g, i] st = .ok .nx [some (.ref h), a, some (.int (most : Int)), b, c, d, e, f, g, i] s1 := by
  obtain ⟨v, s1, hv, hu, hr⟩ := draw_ok (sub := sub) (many := 4) hh (by decide) (by decide)
  have hr : ∀ m k, runF tab.tb sub (k + 1) m "_law_draw" [.ref h, .int 4] st = .ok (.int ((v : Nat) : Int)) s1 := hr
  have z1 : (0 : Int) ≤ (v : Int) := by omega
  have z2 : (v : Int) < (([D.int 2, .int 4, .int 9, .int 1000].length : Nat) : Int) := by simp only [List.length_cons, List.length_nil]; omega
  have z3 {st : Store} := ix_lst (st := st) z1 z2
  obtain ⟨most, hp, hq, hm⟩ : ∃ most : Nat, 0 < most ∧ most ≤ 1000 ∧ [D.int 2, .int 4, .int 9, .int 1000][v]! = .int (most : Int) := by
    match v, hv with
    | 0, _ => exact ⟨2, by decide, by decide, rfl⟩
    | 1, _ => exact ⟨4, by decide, by decide, rfl⟩
    | 2, _ => exact ⟨9, by decide, by decide, rfl⟩
    | 3, _ => exact ⟨1000, by decide, by decide, rfl⟩
  refine ⟨most, s1, hp, hq, hu, ?_⟩
  rw [Int.toNat_natCast, hm] at z3
  rw [L__law_mind]
  simp_arith [hr, z3]
theorem draws_row {h n most : Nat} (hn : n ≤ 6) (hh : HandAt st h) (h1 : 0 < most) (h2 : most ≤ 1000) {F : Cf} {ρ : PI.Env} {mm : Bool} {elt : E} {vs : List Nat} {tg : T} {it : It} {c : Es} {cnt : Nat} (hc : cnt ≤ 64)
    (hi : ∀ s, evIt F it ρ s = .ok ⟨[], (List.range cnt).map nD, true⟩ s)
    (hb : ∀ a ∈ List.range cnt, ∀ s v s', runF tab.tb sub (k + 1) false "_law_draw" [.ref h, .int (most : Int)] s = .ok (.int ((v : Nat) : Int)) s' → compF F elt vs tg c ρ (nD a) s = .ok (some (.int (v : Int))) s') :
    ∃ os s', os.length = cnt ∧ Bnd os 0 999 ∧ (∀ o ∈ os, o.isSome = true) ∧ Upd h st s' ∧ evE F (.comp mm elt vs tg it c) ρ st = newL mm (os.map oD) s' := by
  obtain ⟨os, s2, hu2, h3, h4⟩ := comp_draw (F := F) (ρ := ρ) (mm := mm) (elt := elt) (vs := vs) (tg := tg) (it := it) (c := c) (src := ⟨[], (List.range cnt).map nD, true⟩) (st := st) (l := List.range cnt) (h := h) nD oD (fun a o => ∃ x : Option Int, o = some x ∧ ∃ v : Nat, v < most ∧ x = some (v : Int)) (hi st) rfl hh (fun _ _ => rfl) (by simp; omega)
    (fun a ha s us => by
      obtain ⟨w, s', hw, us', hs⟩ := draw_ok (sub := sub) (many := most) us.hand h1 (by omega)
      refine ⟨some (some (w : Int)), s', us', ⟨_, rfl, w, hw, rfl⟩, ?_⟩
      rw [hb a ha s w s' (hs false k)]; rfl)
  obtain ⟨vs, h5, h6⟩ := h3.some
  refine ⟨vs, s2, by rw [h5.len]; simp, ?_, ?_, hu2, by rw [h4, h6]⟩
  · intro i hi
    obtain ⟨a, _, v, hv, e⟩ := h5.mem _ hi
    cases e; omega
  · intro o ho
    obtain ⟨a, _, v, hv, e⟩ := h5.mem _ ho
    rw [e]; rfl
theorem lm_2 {h n most : Nat} (hn : n ≤ 6) (hh : HandAt st h) (h1 : 0 < most) (h2 : most ≤ 1000) {a c d e f g : Option D} : ∃ os s1, os.length = 2 ^ n ∧ Bnd os 0 999 ∧ Upd h st s1 ∧ evS ⟨runF tab.tb sub (k + 1), sub⟩ (L__law_mind.nth 2) [some (.ref h), a, some (.int (most : Int)), none, c, some (.int ((2 ^ n : Nat) : Int)), d, e, f, g] st = .ok .nx [some (.ref h), a, some (.int (most : Int)), some (.ref s1.length), c, some (.int ((2 ^ n : Nat) : Int)), d, e, f, g] (s1 ++ [.lst (os.map oD)]) := by
  have hp : 2 ^ n ≤ 64 := Nat.pow_le_pow_right (n := 2) (by decide) hn
  obtain ⟨os, s1, q1, q2, _, q3, q4⟩ := draws_row (sub := sub) (k := k) (F := ⟨runF tab.tb sub (k + 1), sub⟩) (ρ := [some (.ref h), a, some (.int (most : Int)), none, c, some (.int ((2 ^ n : Nat) : Int)), d, e, f, g]) (mm := true) (elt := (.own false "_law_draw" (.cons (.v 0) (.cons (.v 2) .nil)))) (vs := [7]) (tg := .nm 7) (it := (.rng (.cons (.v 5) .nil))) (c := .nil) hn hh h1 h2 (cnt := 2 ^ n) hp (fun s => by simp_arith) (fun a ha s v s' hr => by simp_arith [hr])
  refine ⟨os, s1, q1, q2, q3, ?_⟩
  have q4 : evE ⟨runF tab.tb sub (k + 1), sub⟩ L__law_mind_c0 [some (.ref h), a, some (.int (most : Int)), none, c, some (.int ((2 ^ n : Nat) : Int)), d, e, f, g] st = newL true (os.map oD) s1 := q4
  rw [L__law_mind]
  simp_arith [q4]
theorem lm_3 {h n most kind r : Nat} {s : Store} {os : List (Option Int)} (hn : n ≤ 6) (hr : RowAt h n st s r os) (h1 : 0 < most) (h2 : most ≤ 1000) {e f g : Option D} : ∃ os' s' r' e' f' g' i', RowAt h n st s' r' os' ∧ evS ⟨runF tab.tb sub (k + 1), sub⟩ (L__law_mind.nth 3) [some (.ref h), some (.int (n : Int)), some (.int (most : Int)), some (.ref r), some (.int (kind : Int)), some (.int ((2 ^ n : Nat) : Int)), none, e, f, g] s = .ok .nx [some (.ref h), some (.int (n : Int)), some (.int (most : Int)), some (.ref r'), some (.int (kind : Int)), some (.int ((2 ^ n : Nat) : Int)), i', e', f', g'] s' := by
  have hp : 2 ^ n ≤ 64 := Nat.pow_le_pow_right (n := 2) (by decide) hn
  by_cases q : (kind : Int) = 0
  · obtain ⟨ws, s1, q1, q2, q2s, q3, q4⟩ := draws_row (sub := sub) (k := k) (F := ⟨runF tab.tb sub (k + 1), sub⟩) (ρ := [some (.ref h), some (.int (n : Int)), some (.int (most : Int)), some (.ref r), some (.int (kind : Int)), some (.int ((2 ^ n : Nat) : Int)), none, e, f, g]) (mm := false) (elt := (.own false "_law_draw" (.cons (.v 0) (.cons (.v 2) .nil)))) (vs := [8]) (tg := .nm 8) (it := (.rng (.cons (.v 1) .nil))) (c := .nil) hn hr.g.hand h1 h2 (cnt := n) (by omega) (fun s => by simp_arith) (fun a ha s v s' hr => by simp_arith [hr])
    have q4 : evE ⟨runF tab.tb sub (k + 1), sub⟩ L__law_mind_c1 [some (.ref h), some (.int (n : Int)), some (.int (most : Int)), some (.ref r), some (.int (kind : Int)), some (.int ((2 ^ n : Nat) : Int)), none, e, f, g] s = newL false (ws.map oD) s1 := q4
    let f2 : Nat → Int := fun w => (((List.range n).filter fun l => decide ((w : Int) / ((2 ^ l : Nat) : Int) % 2 = 1)).map fun l => ws[l]!.get!).sum
    have c2 {w : Nat} {a' : Option D} {s : Store} : evE ⟨runF tab.tb sub (k + 1), sub⟩ L__law_mind_c2 [some (.ref h), some (.int (n : Int)), some (.int (most : Int)), some (.ref r), some (.int (kind : Int)), some (.int ((2 ^ n : Nat) : Int)), some (.lst (ws.map oD)), some (.int (w : Int)), a', g] s = .ok (.lst ((((List.range n).filter fun l => decide ((w : Int) / ((2 ^ l : Nat) : Int) % 2 = 1)).map fun l => ws[l]!.get!).map .int)) s := by
      refine comp_f nD (fun l => decide ((w : Int) / ((2 ^ l : Nat) : Int) % 2 = 1)) (fun l => ws[l]!.get!) .int (src := ⟨[], (List.range n).map nD, true⟩) (by simp_arith) rfl rfl (by simp; omega) (fun l hl => ?_)
      have hl := List.mem_range.mp hl
      have h3 : (2 : Nat) ^ l ≤ 2 ^ 6 := Nat.pow_le_pow_right (by decide) (by omega)
      have h4 : 0 < (2 : Nat) ^ l := Nat.two_pow_pos l
      have h5 : oD ws[l]! = .int ws[l]!.get! := oD_get (by rw [getElem!_pos ws l (by omega)]; exact q2s _ (List.getElem_mem _))
      simp_arith [Int.natCast_nonneg, h5]
    have c3 : evE ⟨runF tab.tb sub (k + 1), sub⟩ L__law_mind_c3 [some (.ref h), some (.int (n : Int)), some (.int (most : Int)), some (.ref r), some (.int (kind : Int)), some (.int ((2 ^ n : Nat) : Int)), some (.lst (ws.map oD)), e, f, g] s1 = .ok (.ref s1.length) (s1 ++ [.lst (((List.range (2 ^ n)).map fun w => some (f2 w)).map oD)]) := by
      refine comp_mT nD (fun w => some (f2 w)) oD (src := ⟨[], (List.range (2 ^ n)).map nD, true⟩) (by simp_arith) rfl rfl (by simp; omega) (fun w hw => ?_)
      simp_arith [c2]
      rfl
    refine ⟨(List.range (2 ^ n)).map fun w => some (f2 w), _, s1.length, e, f, g, some (.lst (ws.map oD)), ⟨(hr.g.upd q3).push _, ?_, at_end _ _, by simp, ?_⟩, ?_⟩
    · rw [q3.len]; exact hr.g.le
    · intro i hi
      obtain ⟨w, _, hw⟩ := List.mem_map.mp hi
      cases hw
      have hb := sum_bnd (l := (List.range n).filter fun l => decide ((w : Int) / ((2 ^ l : Nat) : Int) % 2 = 1)) (f := fun l => ws[l]!.get!) (B := 999) (fun l hl => by
        have hl := List.mem_range.mp (List.mem_filter.mp hl).1
        have hm : ws[l]! ∈ ws := by rw [getElem!_pos ws l (by omega)]; exact List.getElem_mem _
        have hs := q2s _ hm
        cases ho : ws[l]! with
        | none => rw [ho] at hs; cases hs
        | some x => rw [ho] at hm; exact q2 x hm)
      have hf := List.length_filter_le (fun l => decide ((w : Int) / ((2 ^ l : Nat) : Int) % 2 = 1)) (List.range n)
      rw [List.length_range] at hf
      have hb2 : (((List.range n).filter fun l => decide ((w : Int) / ((2 ^ l : Nat) : Int) % 2 = 1)).length : Int) * 999 ≤ 6000 := by omega
      show 0 ≤ f2 w ∧ f2 w ≤ 6000
      constructor
      · exact hb.1
      · exact Int.le_trans hb.2 hb2
    · rw [L__law_mind]
      simp_arith [decide_eq_true q, q4, c3]
  · refine ⟨os, s, r, e, f, g, none, hr, ?_⟩
    rw [L__law_mind]
    simp_arith [decide_eq_false q]
theorem lm_4 {h n kind r : Nat} {s : Store} {os : List (Option Int)} (hn : n ≤ 6) (hr : RowAt h n st s r os) {a b c d e f g : Option D} : ∃ os' s' r', RowAt h n st s' r' os' ∧ evS ⟨runF tab.tb sub (k + 1), sub⟩ (L__law_mind.nth 4) [some (.ref h), a, b, some (.ref r), some (.int (kind : Int)), c, d, e, f, g] s = .ok .nx [some (.ref h), a, b, some (.ref r'), some (.int (kind : Int)), c, d, e, f, g] s' := by
  have hp : 2 ^ n ≤ 64 := Nat.pow_le_pow_right (n := 2) (by decide) hn
  have hlt := hr.g.lt
  by_cases q : (kind : Int) = 1
  · obtain ⟨os2, s2, hu2, h3, h4⟩ := comp_draw (F := ⟨runF tab.tb sub (k + 1), sub⟩) (ρ := [some (.ref h), a, b, some (.ref r), some (.int (kind : Int)), c, d, e, f, g]) (mm := true) (elt := (.ite (.cmp .eq (.own false "_law_draw" (.cons (.v 0) (.cons (.c (.int 3)) .nil))) (.c (.int 0))) (.c .non) (.v 9))) (vs := [9]) (tg := .nm 9) (it := .seq (.v 3)) (c := .nil) (src := ⟨[(r, .lst (os.map oD))], os.map oD, true⟩) (st := s) (l := os) (h := h) oD oD (fun o o' => ∃ x : Option Int, o' = some x ∧ (x = none ∨ x = o)) (by simp_arith [src_ref hr.at_]) rfl hr.g.hand (fun s' us => chk_ref (by rw [us.old r (by have := hr.le; omega)]; exact hr.at_)) (by rw [hr.len]; omega)
      (fun o ho s us => by
        obtain ⟨w, s', hw, us', hs⟩ := draw_ok (sub := sub) (many := 3) us.hand (by decide) (by decide)
        have hs : ∀ m k, runF tab.tb sub (k + 1) m "_law_draw" [.ref h, .int 3] s = .ok (.int ((w : Nat) : Int)) s' := fun m k => hs m k
        by_cases q : (w : Int) = 0
        · exact ⟨some none, s', us', ⟨_, rfl, .inl rfl⟩, by simp_arith [hs, decide_eq_true q, Option.map]⟩
        · exact ⟨some o, s', us', ⟨_, rfl, .inr rfl⟩, by simp_arith [hs, decide_eq_false q, Option.map]⟩)
    obtain ⟨vs, h5, h6⟩ := h3.some
    rw [h6] at h4
    have h4 : evE ⟨runF tab.tb sub (k + 1), sub⟩ L__law_mind_c4 [some (.ref h), a, b, some (.ref r), some (.int (kind : Int)), c, d, e, f, g] s = newL true (vs.map oD) s2 := h4
    have hl : vs.length = 2 ^ n := by rw [h5.len, hr.len]
    refine ⟨vs, s2 ++ [.lst (vs.map oD)], s2.length, ⟨(hr.g.upd hu2).push _, ?_, at_end _ _, hl, ?_⟩, ?_⟩
    · rw [hu2.len]; exact hr.g.le
    · intro i hi
      obtain ⟨o, ho, h7⟩ := h5.mem _ hi
      rcases h7 with h7 | h7
      · cases h7
      · rw [← h7] at ho; exact hr.bnd i ho
    · rw [L__law_mind]
      simp_arith [decide_eq_true q, h4]
  · refine ⟨os, s, r, hr, ?_⟩
    rw [L__law_mind]
    simp_arith [decide_eq_false q]
theorem lm_5 {h n r : Nat} {s : Store} {os : List (Option Int)} (hn : n ≤ 6) (hr : RowAt h n st s r os) {a b d e f g i : Option D} : ∃ os' s', RowAt h n st s' r os' ∧ os'.any Option.isSome = true ∧ evS ⟨runF tab.tb sub (k + 1), sub⟩ (L__law_mind.nth 5) [some (.ref h), a, b, some (.ref r), d, some (.int ((2 ^ n : Nat) : Int)), e, f, g, i] s = .ok .nx [some (.ref h), a, b, some (.ref r), d, some (.int ((2 ^ n : Nat) : Int)), e, f, g, i] s' := by
  have hp : 2 ^ n ≤ 64 := Nat.pow_le_pow_right (n := 2) (by decide) hn
  have hp0 : 0 < 2 ^ n := Nat.two_pow_pos n
  have hlt := hr.g.lt
  have hle := hr.le
  have c5 : evE ⟨runF tab.tb sub (k + 1), sub⟩ L__law_mind_c5 [some (.ref h), a, b, some (.ref r), d, some (.int ((2 ^ n : Nat) : Int)), e, f, g, i] s = .ok (.lst ((os.map fun o => !o.isNone).map .bl)) s := by
    refine comp_m oD (fun o => !o.isNone) .bl (src := ⟨[(r, .lst (os.map oD))], os.map oD, true⟩) (by simp_arith [src_ref hr.at_]) rfl (chk_ref hr.at_) (by rw [hr.len]; omega) (fun o ho => ?_)
    simp_arith
  by_cases q : os.any Option.isSome = true
  · refine ⟨os, s, hr, q, ?_⟩
    rw [L__law_mind]
    simp_arith [c5, any_some, q]
  · have q := Bool.not_eq_true _ ▸ q
    obtain ⟨v, s1, hv, hu, hd⟩ := draw_ok (sub := sub) (many := 2 ^ n) hr.g.hand hp0 (by omega)
    have e1 : s1[r]? = some (.lst (os.map oD)) := by rw [hu.old r (by omega)]; exact hr.at_
    have hrl : r < s1.length := (List.getElem?_eq_some_iff.mp e1).1
    refine ⟨os.set v (some 0), s1.set r (.lst ((os.set v (some 0)).map oD)), ⟨(hr.g.upd hu).set hr.le _, hr.le, h_get hrl, by rw [List.length_set]; exact hr.len, ?_⟩, ?_, ?_⟩
    · intro i hi
      rcases List.mem_or_eq_of_mem_set hi with h1 | h1
      · exact hr.bnd i h1
      · cases h1; omega
    · rw [List.any_eq_true]
      exact ⟨some 0, List.mem_set (by rw [hr.len]; exact hv) _, rfl⟩
    · have z := set_ref (d := .int 0) e1 (v := v) (by rw [List.length_map, hr.len]; exact hv)
      rw [show D.int 0 = oD (some 0) from rfl, ← List.map_set] at z
      rw [oD_some] at z
      rw [L__law_mind]
      simp_arith [c5, any_some, q, hd, z]
theorem law_mind_ok {h n : Nat} (h1 : 1 ≤ n) (hn : n ≤ 6) (hh : HandAt st h) : ∃ os st', MindOk n os ∧ Bnd os 0 6000 ∧ Upd h st st' ∧ runF tab.tb sub (k + 2) m "_law_mind" [.ref h, .int (n : Int)] st = .ok (mindD n os) st' := by
  obtain ⟨kind, s1, u1, e1⟩ := lm_0 (sub := sub) (k := k) hn hh
  obtain ⟨most, s2, m1, m2, u2, e2⟩ := lm_1 (sub := sub) (k := k) u1.hand (a := some (.int (n : Int))) (b := none) (c := some (.int ((kind : Nat) : Int))) (d := some (.int ((2 ^ n : Nat) : Int))) (e := none) (f := none) (g := none) (i := none)
  obtain ⟨os3, s3, l3, b3, u3, e3⟩ := lm_2 (sub := sub) (k := k) hn u2.hand m1 m2 (a := some (.int (n : Int))) (c := some (.int ((kind : Nat) : Int))) (d := none) (e := none) (f := none) (g := none)
  have r3 : RowAt h n st (s3 ++ [.lst (os3.map oD)]) s3.length os3 := ⟨((((Grow.refl hh).upd u1).upd u2).upd u3).push _, by rw [u3.len, u2.len, u1.len]; exact Nat.le_refl _, at_end _ _, l3, fun i hi => by have := b3 i hi; omega⟩
  obtain ⟨os4, s4, r4, x1, x2, x3, x4, R4, e4⟩ := lm_3 (sub := sub) (k := k) (kind := kind) hn r3 m1 m2 (e := none) (f := none) (g := none)
  obtain ⟨os5, s5, r5, R5, e5⟩ := lm_4 (sub := sub) (k := k) (kind := kind) hn R4 (a := some (.int (n : Int))) (b := some (.int (most : Int))) (c := some (.int ((2 ^ n : Nat) : Int))) (d := x4) (e := x1) (f := x2) (g := x3)
  obtain ⟨os6, s6, R6, any6, e6⟩ := lm_5 (sub := sub) (k := k) hn R5 (a := some (.int (n : Int))) (b := some (.int (most : Int))) (d := some (.int ((kind : Nat) : Int))) (e := x4) (f := x1) (g := x2) (i := x3)
  obtain ⟨lo, hlo⟩ := exists_min any6
  have hp : 2 ^ n ≤ 64 := Nat.pow_le_pow_right (n := 2) (by decide) hn
  have l6 := R6.len
  have e7 := law_settled_ok (sub := sub) (k := k) (m := false) (x := .ref r5) (src_ref R6.at_) rfl (chk_ref R6.at_) (by omega) hlo
  have low := low_ok h1 hn R6.len hlo (B := 6000) (fun i hi => by
    have := R6.bnd i hi
    have := R6.bnd lo (fm_mem.mp (minI_mem hlo).1)
    omega) (by decide)
  refine ⟨lowD os6 lo, s6.take st.length, low.1, low.2, R6.g.take, ?_⟩
  have e8 : evS ⟨runF tab.tb sub (k + 1), sub⟩ (L__law_mind.nth 6) [some (.ref h), some (.int (n : Int)), some (.int (most : Int)), some (.ref r5), some (.int ((kind : Nat) : Int)), some (.int ((2 ^ n : Nat) : Int)), x4, x1, x2, x3] s6 = .ok (.rt (mindD n (lowD os6 lo))) [some (.ref h), some (.int (n : Int)), some (.int (most : Int)), some (.ref r5), some (.int ((kind : Nat) : Int)), some (.int ((2 ^ n : Nat) : Int)), x4, x1, x2, x3] s6 := by
    rw [L__law_mind]
    simp_arith [e7, mindD_ap]
  have hnr : (mindD n (lowD os6 lo)).nr = true := by
    rw [mindD_ap]; simp only [nr_tup, nrL_cons, nr_int, nrL_oD, nrL_nil, Bool.and_self]
  rw [run_eq tb__law_mind rfl (by decide), lm_split]
  simp_arith [e1, e2, e3, e4, e5, e6, e8, R6.g.back hnr]
end K66
namespace K66
open PySem PI
variable {sub : Str → Str → Option Bool} {k : Nat} {m : Bool} {st : Store}
theorem told_ne {os : List (Option Int)} {l : List Nat} : (decide ((0 : Int) < ((told os l).length : Nat)) : Bool) = (minI (told os l)).isSome := by
  cases told os l with
  | nil => rfl
  | cons a r => rw [decide_eq_true (by simp only [List.length_cons]; omega)]; rfl
theorem law_held_ok {n : Nat} {os : List (Option Int)} (hl : os.length ≤ 1000) : runF tab.tb sub (k + 1) m "_law_held" [mindD n os] st = .ok (.tup ((heldW os).map nD)) st := by
  rw [run_eq tb__law_held rfl (by decide), L__law_held]
  have c0 {b : Option D} : evE ⟨runF tab.tb sub k, sub⟩ L__law_held_c0 [some (mindD n os), b] st = .ok (.lst ((((List.range os.length).filter fun w => decide (os[w]! = some 0)).map id).map nD)) st := by
    refine comp_f nD (fun w => decide (os[w]! = some 0)) id nD (src := ⟨[], (List.range os.length).map nD, true⟩) (by simp_arith [mindD_ap]) rfl rfl (by simp; omega) (fun a ha => ?_)
    have := List.mem_range.mp ha
    simp_arith [id, mindD_ap]
  have hf := List.length_filter_le (fun w => decide (os[w]! = some 0)) (List.range os.length)
  rw [List.length_range] at hf
  simp_arith [c0, List.map_id, heldW]
def bitsL (n b : Nat) : List Nat := (List.range n).filter fun w => b.testBit w
theorem bit_dec (b w : Nat) : decide ((b : Int) / ((2 ^ w : Nat) : Int) % 2 = 1) = b.testBit w := by
  rw [Nat.testBit_eq_decide_div_mod_eq]
  apply decide_eq_decide.mpr
  omega
theorem law_hand_ok {ns : List Int} (hn : ns.length ≤ 63) : ∃ st', HandAt st' 0 ∧ st'.length = 1 ∧ runF tab.tb sub (k + 1) true "_law_hand" [.scr ns] [] = .ok (.ref 0) st' := by
  refine ⟨[handO ((ns.map fun i => if i < 0 then -i else i)) 0 0 (31 + 7 * (ns.length : Int)) 0], ⟨_, _, _, _, _, rfl⟩, rfl, ?_⟩
  have z : cutD (ns.map D.int) none (some 63) = ns.map D.int := by
    unfold cutD
    have z2 : HT.sIx (ns.map D.int).length (ns.map D.int).length (some 63) = (ns.map D.int).length := by
      refine (HT.sIx_nat _ _ 63).trans ?_
      rw [List.length_map]
      exact Nat.min_eq_right hn
    rw [z2]
    show ((ns.map D.int).drop 0).take ((ns.map D.int).length - 0) = _
    rw [List.drop_zero, Nat.sub_zero, List.take_length]
  have sl {st : Store} : slice false (.scr ns) none (some 63) st = newL false (ns.map D.int) st := by
    unfold slice; dsimp only; rw [z]
  have c0 {a b : Option D} : evE ⟨runF tab.tb sub k, sub⟩ L__law_hand_c0 [some (.scr ns), a, b] [] = .ok (.lst ((ns.map fun i => if i < 0 then -i else i).map .int)) [] := by
    refine comp_m .int (fun i => if i < 0 then -i else i) .int (src := ⟨[], ns.map D.int, true⟩) (by simp_arith [sl]) rfl rfl (by omega) (fun b hb2 => ?_)
    simp_arith
  rw [run_eq tb__law_hand rfl (by decide), L__law_hand]
  have bk : ∀ c, back true [] ([] ++ [handO ((ns.map fun i => if i < 0 then -i else i)) 0 0 c 0]) (.ref 0) = .ok (.ref 0) [handO ((ns.map fun i => if i < 0 then -i else i)) 0 0 c 0] := fun c => back_endT (st := []) (handO_nr _ _ _ _ _)
  have bk := bk (31 + 7 * (ns.length : Int))
  simp only [handO, List.nil_append, Int.cast_ofNat_Int] at bk ⊢
  simp_arith [c0, bk]
/-! ### kept -/
def kpt : Nat → D → Bool
  | _, .non => true
  | _, .bl _ => true
  | _, .int _ => true
  | _, .str s => PyData.strOk s
  | n + 1, .tup l => decide (l.length ≤ 1000) && l.all (kpt n)
  | n + 1, .lst l => decide (l.length ≤ 1000) && l.all (kpt n)
  | _, _ => false
theorem kpt_nref {n : Nat} {d : D} (h : kpt n d = true) : nref d = true := by
  cases d <;> first | rfl | (cases n <;> simp [kpt] at h)
theorem kpt_fit : ∀ {n : Nat} {d : D}, kpt n d = true → D.fitN d n = true
  | n, .non, _ => fit_non n
  | n, .bl _, _ => fit_bl _ n
  | n, .int _, _ => fit_int _ n
  | n, .str s, h => by rw [fit_str]; cases n <;> exact h
  | 0, .tup l, h => by simp [kpt] at h
  | n + 1, .tup l, h => by
    rw [kpt, Bool.and_eq_true, List.all_eq_true] at h
    rw [fit_tup, fitL_all, List.all_eq_true]
    exact fun x hx => kpt_fit (h.2 x hx)
  | 0, .lst l, h => by simp [kpt] at h
  | n + 1, .lst l, h => by
    rw [kpt, Bool.and_eq_true, List.all_eq_true] at h
    rw [fit_lst, fitL_all, List.all_eq_true]
    exact fun x hx => kpt_fit (h.2 x hx)
  | n, .dct _ _, h => by cases n <;> simp [kpt] at h
  | n, .ref _, h => by cases n <;> simp [kpt] at h
  | n, .scr _, h => by cases n <;> simp [kpt] at h
/-- no flag in it -/
def kpb : Nat → D → Bool
  | _, .non => true
  | _, .int _ => true
  | _, .str s => PyData.strOk s
  | n + 1, .tup l => decide (l.length ≤ 1000) && l.all (kpb n)
  | n + 1, .lst l => decide (l.length ≤ 1000) && l.all (kpb n)
  | _, _ => false
theorem kpb_str {n : Nat} {s : Str} (h : kpb n (.str s) = true) : PyData.strOk s = true := by cases n <;> exact h
theorem kpt_str {n : Nat} {s : Str} (h : kpt n (.str s) = true) : PyData.strOk s = true := by cases n <;> exact h
theorem all_eq : ∀ {l r : List D}, l.length = r.length → (((List.range r.length).map fun i => decide (l[i]! = r[i]!)).all id) = decide (l = r) := by
  intro l r h
  rw [Bool.eq_iff_iff, decide_eq_true_eq, List.all_map, List.all_eq_true]
  constructor
  · intro z
    apply List.ext_getElem h
    intro i h1 h2
    have := z i (List.mem_range.mpr h2)
    simp only [Function.comp, id, decide_eq_true_eq] at this
    rw [getElem!_pos l i h1, getElem!_pos r i h2] at this
    exact this
  · rintro rfl i _
    simp
theorem kept_ok : ∀ (n : Nat) {a b : D} {k : Nat} {m : Bool} {st : Store}, kpt n a = true → kpb n b = true → n ≤ 40 → runF tab.tb sub (k + n + 1) m "_law_kept" [a, b] st = .ok (.bl (decide (a = b))) st := by
  intro n
  induction n with
  | zero =>
    intro a b k m st ha hb _
    rw [run_eq tb__law_kept rfl (by decide), L__law_kept]
    cases b <;> first | (simp [kpb] at hb; done) | skip
    · simp_arith
    · cases a <;> first | (simp [kpt] at ha; done) | simp_arith [D.int.injEq]
    · cases a <;> first | (simp [kpt] at ha; done) | simp_arith [D.str.injEq]
      rw [c_eq (by nofun) (by nofun) (by rw [plain_eq, fit_str]; exact kpt_str ha) (by rw [plain_eq, fit_str]; exact kpb_str hb), eqv_str]
      simp_arith
  | succ n ih =>
    intro a b k m st ha hb hn
    rw [run_eq tb__law_kept rfl (by decide), L__law_kept]
    have row {l r : List D} {x : Option D} {A B : D} (hA : A = .tup l ∨ A = .lst l) (hB : B = .tup r ∨ B = .lst r) (h1 : l.length = r.length) (h2 : r.length ≤ 1000) (h3 : ∀ x ∈ l, kpt n x = true) (h4 : ∀ x ∈ r, kpb n x = true) : evE ⟨runF tab.tb sub (k + (n + 1)), sub⟩ L__law_kept_c0 [some A, some B, x] st = .ok (.lst (((List.range r.length).map fun i => decide (l[i]! = r[i]!)).map .bl)) st := by
      refine comp_m nD (fun i => decide (l[i]! = r[i]!)) .bl (src := ⟨[], (List.range r.length).map nD, true⟩) (by rcases hB with rfl | rfl <;> simp_arith) rfl rfl (by simp; omega) (fun i hi => ?_)
      have hi := List.mem_range.mp hi
      have e1 : (0 : Int) ≤ (i : Int) := by omega
      have e2 : (i : Int) < (r.length : Int) := by omega
      have e3 : (i : Int) < (l.length : Int) := by omega
      have e4 : kpt n l[i]! = true := by rw [getElem!_pos l i (by omega)]; exact h3 _ (List.getElem_mem _)
      have e5 : kpb n r[i]! = true := by rw [getElem!_pos r i hi]; exact h4 _ (List.getElem_mem _)
      have e6 {st : Store} := ih (k := k) (m := false) (st := st) e4 e5 (by omega)
      rw [show k + n + 1 = k + (n + 1) from by omega] at e6
      rcases hA with rfl | rfl <;> rcases hB with rfl | rfl <;> simp_arith [ix_tup, ix_lst, e6]
    cases b <;> first | (simp [kpb] at hb; done) | skip
    · simp_arith
    · cases a <;> first | (simp [kpt] at ha; done) | simp_arith [D.int.injEq]
    · cases a <;> first | (simp [kpt] at ha; done) | simp_arith [D.str.injEq]
      rw [c_eq (by nofun) (by nofun) (by rw [plain_eq, fit_str]; exact kpt_str ha) (by rw [plain_eq, fit_str]; exact kpb_str hb), eqv_str]
      simp_arith
    · rename_i r
      rw [kpb, Bool.and_eq_true, decide_eq_true_eq, List.all_eq_true] at hb
      cases a <;> first | (simp [kpt] at ha; done) | skip
      all_goals try (simp_arith; done)
      rename_i l
      rw [kpt, Bool.and_eq_true, decide_eq_true_eq, List.all_eq_true] at ha
      by_cases q : l.length = r.length
      · have q2 : ((l.length : Nat) : Int) = ((r.length : Nat) : Int) := by omega
        simp_arith [decide_eq_true q2, row (A := .tup l) (B := .tup r) (.inl rfl) (.inl rfl) q hb.1 ha.2 hb.2, all_eq q, D.tup.injEq]
      · have q2 : ¬ ((l.length : Nat) : Int) = ((r.length : Nat) : Int) := by omega
        have q3 : ¬ l = r := fun e => q (by rw [e])
        simp_arith [decide_eq_false q2, q3, D.tup.injEq]
    · rename_i r
      rw [kpb, Bool.and_eq_true, decide_eq_true_eq, List.all_eq_true] at hb
      cases a <;> first | (simp [kpt] at ha; done) | skip
      all_goals try (simp_arith; done)
      rename_i l
      rw [kpt, Bool.and_eq_true, decide_eq_true_eq, List.all_eq_true] at ha
      by_cases q : l.length = r.length
      · have q2 : ((l.length : Nat) : Int) = ((r.length : Nat) : Int) := by omega
        simp_arith [decide_eq_true q2, row (A := .lst l) (B := .lst r) (.inr rfl) (.inr rfl) q hb.1 ha.2 hb.2, all_eq q, D.lst.injEq]
      · have q2 : ¬ ((l.length : Nat) : Int) = ((r.length : Nat) : Int) := by omega
        have q3 : ¬ l = r := fun e => q (by rw [e])
        simp_arith [decide_eq_false q2, q3, D.lst.injEq]
theorem kept_bl {a b : Bool} : runF tab.tb sub (k + 1) m "_law_kept" [.bl a, .bl b] st = .ok (.bl (decide (a = b))) st := by
  rw [run_eq tb__law_kept rfl (by decide), L__law_kept]
  cases a <;> cases b <;> simp_arith [isBR]
end K66
namespace K66
open PySem PI
variable {sub : Str → Str → Option Bool} {k : Nat} {m : Bool} {st : Store}
/-! ### what is none -/
def noMinds (n : Nat) (os : List (Option Int)) : List D :=
  [.non, .tup [.int n], .lst [.int n, .tup (os.map oD)], .tup [.int n, .tup (os.map oD), .int 0], .tup [.int n, .lst (os.map oD)], .tup [.int n, .tup (os.map oD ++ [.int 0])], .tup [.int n, .tup ((os.map oD).drop 1)], .str "mind", .int 0,
   .tup [.int 0, .tup [.int 0]], .tup [.int 7, .tup (repL [.int 0] 128)], .tup [.bl true, .tup (os.map oD)], .tup [.int n, .tup (repL [.non] (os.length : Nat))], .tup [.int n, .tup (repL [.int 1] (os.length : Nat))], .tup [.int n, .tup (.int (-1) :: (os.map oD).drop 1)],
   .tup [.int n, .tup (.int (10 ^ 6 + 1) :: repL [.int 0] ((os.length : Nat) - 1))], .tup [.int n, .tup (repL [.bl true] (os.length : Nat))], .tup [.int n, .tup (repL [.str "0"] (os.length : Nat))]]
theorem toOs_app : ∀ {l r : List D}, toOs (l ++ r) = (toOs l).bind fun a => (toOs r).map fun b => a ++ b
  | [], r => by simp [toOs]
  | d :: l, r => by
    have ih := toOs_app (l := l) (r := r)
    cases d <;> simp [toOs, ih]
    all_goals cases toOs l <;> cases toOs r <;> simp
theorem noMinds_ok {n : Nat} {os : List (Option Int)} (hm : MindOk n os) : ∀ d ∈ noMinds n os, d.nr = true ∧ okN 2 d = true ∧ isMindD d = false := by
  have hl := hm.le
  have hlen := hm.len
  have hn1 := hm.h1
  have h2 : 2 ≤ 2 ^ n := by
    have : 2 ^ 1 ≤ 2 ^ n := Nat.pow_le_pow_right (by decide) hn1
    simpa using this
  have ho : ∀ k, okN (k + 1) (.tup (os.map oD)) = true := fun k => okN_row (by omega) fun a _ => okN_oD _ _
  have rp : ∀ (d : D) (j : Nat), repL [d] (j : Int) = List.replicate j d := repL_1
  have okr : ∀ (d : D) (j : Nat), j ≤ 1000 → okN 0 d = true → okN 1 (.tup (List.replicate j d)) = true := fun d j hj hd => by
    show (true && (decide ((List.replicate j d).length ≤ 1000) && (List.replicate j d).all (okN 0))) = true
    rw [List.length_replicate, decide_eq_true hj, Bool.true_and, Bool.true_and, List.all_eq_true]
    intro x hx
    rw [List.eq_of_mem_replicate hx]; exact hd
  have nrr : ∀ (d : D) (j : Nat), d.nr = true → D.nrL (List.replicate j d) = true := fun d j hd => by
    rw [nrL_all, List.all_eq_true]
    intro x hx
    rw [List.eq_of_mem_replicate hx]; exact hd
  have two : ∀ {a b : D}, okN 1 a = true → okN 1 b = true → okN 2 (.tup [a, b]) = true := fun {a b} h1 h2 => by
    show (true && (decide (2 ≤ 1000) && [a, b].all (okN 1))) = true
    simp [h1, h2]
  have wrong : ∀ (rs : List D), rs.length ≠ 2 ^ n → isMindD (.tup [.int n, .tup rs]) = false := fun rs h => by
    unfold isMindD; dsimp only
    rw [Int.toNat_natCast, decide_eq_false h]; simp
  have wrong2 : ∀ (rs : List D), toOs rs = none → isMindD (.tup [.int n, .tup rs]) = false := fun rs h => by
    unfold isMindD; dsimp only
    rw [h]; simp
  have wrong3 : ∀ (rs : List D) (os : List (Option Int)), toOs rs = some os → ranksOk os = false → isMindD (.tup [.int n, .tup rs]) = false := fun rs os h h2 => by
    unfold isMindD; dsimp only
    rw [h]; dsimp only; rw [h2]; simp
  obtain ⟨j, hj⟩ : ∃ j, os.length = j + 1 := ⟨os.length - 1, by omega⟩
  have hdrop : D.nrL ((os.map oD).drop 1) = true := by
    rw [nrL_all, List.all_eq_true]
    intro x hx
    obtain ⟨o, _, rfl⟩ := List.mem_map.mp (List.mem_of_mem_drop hx)
    exact nr_oD o
  have okdrop : ∀ x ∈ (os.map oD).drop 1, okN 0 x = true := fun x hx => by
    obtain ⟨o, _, rfl⟩ := List.mem_map.mp (List.mem_of_mem_drop hx)
    exact okN_oD o 0
  have oktup : ∀ (l : List D), l.length ≤ 1000 → (∀ x ∈ l, okN 0 x = true) → okN 1 (.tup l) = true := fun l h1 h2 => by
    show (true && (decide (l.length ≤ 1000) && l.all (okN 0))) = true
    rw [decide_eq_true h1, Bool.true_and, Bool.true_and, List.all_eq_true]; exact h2
  have dropO : toOs ((os.map oD).drop 1) = some (os.drop 1) := by rw [← List.map_drop, toOs_map]
  intro d hd
  simp only [noMinds, List.mem_cons, List.not_mem_nil, or_false] at hd
  have c1 : ((os.length : Nat) : Int) - 1 = ((j : Nat) : Int) := by omega
  rcases hd with rfl | rfl | rfl | rfl | rfl | rfl | rfl | rfl | rfl | rfl | rfl | rfl | rfl | rfl | rfl | rfl | rfl | rfl
  · exact ⟨nr_non, rfl, rfl⟩
  · exact ⟨by simp [nr_tup, nrL_cons, nrL_nil, nr_int], rfl, rfl⟩
  · exact ⟨by simp [nr_tup, nr_lst, nrL_cons, nrL_nil, nr_int, nrL_oD], rfl, rfl⟩
  · refine ⟨by simp [nr_tup, nrL_cons, nrL_nil, nr_int, nrL_oD], ?_, rfl⟩
    show (true && (decide (3 ≤ 1000) && [D.int n, .tup (os.map oD), .int 0].all (okN 1))) = true
    simp [ho, okN_int]
  · exact ⟨by simp [nr_tup, nr_lst, nrL_cons, nrL_nil, nr_int, nrL_oD], two (okN_int _ _) rfl, rfl⟩
  · refine ⟨by simp [nr_tup, nrL_cons, nrL_nil, nr_int, nrL_oD, nrL_append], two (okN_int _ _) (oktup _ (by simp; omega) ?_), wrong _ (by simp; omega)⟩
    intro x hx
    rcases List.mem_append.mp hx with h | h
    · obtain ⟨o, _, rfl⟩ := List.mem_map.mp h; exact okN_oD o 0
    · rw [List.mem_singleton] at h; subst h; rfl
  · exact ⟨by simp only [nr_tup, nrL_cons, nrL_nil, nr_int, hdrop, Bool.and_self], two (okN_int _ _) (oktup _ (by simp; omega) okdrop), wrong _ (by simp; omega)⟩
  · exact ⟨nr_str _, rfl, rfl⟩
  · exact ⟨nr_int _, rfl, rfl⟩
  · exact ⟨by simp [nr_tup, nrL_cons, nrL_nil, nr_int], rfl, rfl⟩
  · have e : repL [D.int 0] 128 = List.replicate 128 (.int 0) := rp _ 128
    rw [e]
    exact ⟨by rw [nr_tup, nrL_cons, nrL_cons, nr_int, nr_tup, nrr _ _ (nr_int 0), nrL_nil]; rfl, two (okN_int _ _) (okr _ _ (by decide) rfl), by unfold isMindD; dsimp only; rw [decide_eq_false (show ¬ (7 : Int) ≤ 6 by decide)]; rfl⟩
  · exact ⟨by simp [nr_tup, nrL_cons, nrL_nil, nr_bl, nrL_oD], two rfl (ho 0), rfl⟩
  · rw [rp]
    refine ⟨by rw [nr_tup, nrL_cons, nrL_cons, nr_int, nr_tup, nrr _ _ nr_non, nrL_nil]; rfl, two (okN_int _ _) (okr _ _ (by omega) rfl), ?_⟩
    have e : List.replicate os.length D.non = (List.replicate os.length (none : Option Int)).map oD := by rw [List.map_replicate]; rfl
    refine wrong3 _ _ (by rw [e, toOs_map]) ?_
    unfold ranksOk
    have : (List.replicate os.length (none : Option Int)).filterMap id = [] := by
      rw [List.filterMap_eq_nil_iff]
      intro o ho2
      rw [List.eq_of_mem_replicate ho2]; rfl
    rw [this]; rfl
  · rw [rp]
    refine ⟨by rw [nr_tup, nrL_cons, nrL_cons, nr_int, nr_tup, nrr _ _ (nr_int 1), nrL_nil]; rfl, two (okN_int _ _) (okr _ _ (by omega) rfl), ?_⟩
    have e : List.replicate os.length (D.int 1) = (List.replicate os.length (some 1 : Option Int)).map oD := by rw [List.map_replicate]; rfl
    refine wrong3 _ _ (by rw [e, toOs_map]) ?_
    unfold ranksOk
    rw [Bool.and_eq_false_iff]; right
    rw [Bool.and_eq_false_iff]; right
    apply decide_eq_false
    intro h
    have := fm_mem.mp (minI_mem h).1
    have := List.eq_of_mem_replicate this
    cases this
  · refine ⟨by simp only [nr_tup, nrL_cons, nrL_nil, nr_int, hdrop, Bool.and_self], two (okN_int _ _) (oktup _ (by simp; omega) ?_), ?_⟩
    · intro x hx
      rcases List.mem_cons.mp hx with rfl | h
      · rfl
      · exact okdrop x h
    · refine wrong3 _ (some (-1) :: os.drop 1) (by rw [toOs, dropO]; rfl) ?_
      unfold ranksOk
      rw [Bool.and_eq_false_iff]; right
      rw [Bool.and_eq_false_iff]; left
      rw [List.all_eq_false]
      exact ⟨-1, fm_mem.mpr List.mem_cons_self, by decide⟩
  · rw [c1, rp]
    refine ⟨by rw [nr_tup, nrL_cons, nrL_cons, nr_int, nr_tup, nrL_cons, nr_int, nrr _ _ (nr_int 0), nrL_nil]; rfl, two (okN_int _ _) (oktup _ (by simp; omega) ?_), ?_⟩
    · intro x hx
      rcases List.mem_cons.mp hx with rfl | h
      · rfl
      · rw [List.eq_of_mem_replicate h]; rfl
    · have e : List.replicate j (D.int 0) = (List.replicate j (some 0 : Option Int)).map oD := by rw [List.map_replicate]; rfl
      refine wrong3 _ (some (10 ^ 6 + 1) :: List.replicate j (some 0)) (by rw [toOs, e, toOs_map]; rfl) ?_
      unfold ranksOk
      rw [Bool.and_eq_false_iff]; right
      rw [Bool.and_eq_false_iff]; left
      rw [List.all_eq_false]
      exact ⟨10 ^ 6 + 1, fm_mem.mpr List.mem_cons_self, by decide⟩
  · rw [rp]
    refine ⟨by rw [nr_tup, nrL_cons, nrL_cons, nr_int, nr_tup, nrr _ _ (nr_bl true), nrL_nil]; rfl, two (okN_int _ _) (okr _ _ (by omega) rfl), wrong2 _ ?_⟩
    rw [hj, List.replicate_succ]; rfl
  · rw [rp]
    refine ⟨by rw [nr_tup, nrL_cons, nrL_cons, nr_int, nr_tup, nrr _ _ (nr_str _), nrL_nil]; rfl, two (okN_int _ _) (okr _ _ (by omega) rfl), wrong2 _ ?_⟩
    rw [hj, List.replicate_succ]; rfl
theorem no_mind_ok {h n : Nat} {os : List (Option Int)} (hh : HandAt st h) (hm : MindOk n os) : ∃ d st', okN 2 d = true ∧ isMindD d = false ∧ Upd h st st' ∧ runF tab.tb sub (k + 3) m "_law_no_mind" [.ref h, mindD n os] st = .ok d st' := by
  have hl := hm.le
  have hlen := hm.len
  have h2 : 1 ≤ 2 ^ n := Nat.two_pow_pos n
  have hN := noMinds_ok hm
  obtain ⟨d, st', q1, q2, q3⟩ := some_ok (sub := sub) (k := k) (m := false) (l := noMinds n os) hh (by simp [noMinds]) (by simp [noMinds]) (fun d hd => (hN d hd).1)
  refine ⟨d, st', (hN d q1).2.1, (hN d q1).2.2, q2, ?_⟩
  have mu1 : ∀ (d : D) (st : Store), op2 false .mul (.tup [d]) (.int ((os.length : Nat) : Int)) st = .ok (.tup (repL [d] ((os.length : Nat) : Int))) st := fun d st => op_mulT _ _ ⟨by simp, by omega, by omega, by simp⟩
  have mu2 : ∀ (d : D) (st : Store), op2 false .mul (.tup [d]) (.int 128) st = .ok (.tup (repL [d] 128)) st := fun d st => op_mulT _ _ ⟨by simp, by omega, by omega, by simp⟩
  have h22 : 2 ≤ os.length := by
    have : 2 ^ 1 ≤ 2 ^ n := Nat.pow_le_pow_right (by decide) hm.h1
    omega
  have mu3 : ∀ (d : D) (st : Store), op2 false .mul (.tup [d]) (.int (((os.length : Nat) : Int) - 1)) st = .ok (.tup (repL [d] (((os.length : Nat) : Int) - 1))) st := fun d st => op_mulT _ _ ⟨by simp, by omega, by omega, by simp⟩
  have len1 : (repL [D.int 0] (((os.length : Nat) : Int) - 1)).length ≤ 64 := by
    rw [show ((os.length : Nat) : Int) - 1 = ((os.length - 1 : Nat) : Int) from by omega, repL_1, List.length_replicate]; omega
  have ct : cutD (os.map oD) (some 1) none = (os.map oD).drop 1 := cut_from _ 1
  have ld : ((os.map oD).drop 1).length ≤ 64 := by rw [List.length_drop, List.length_map]; omega
  have ad {st : Store} {d : D} {l : List D} (hq : l.length ≤ 64) : op2 false .add (.tup [d]) (.tup l) st = .ok (.tup (d :: l)) st := op_addT [d] l (by simp; omega)
  have ad2 {st : Store} {d : D} : op2 false .add (.tup (os.map oD)) (.tup [d]) st = .ok (.tup (os.map oD ++ [d])) st := op_addT _ _ (by simp; omega)
  have pw {st : Store} : op2 false .pow (.int 10) (.int 6) st = .ok (.int (10 ^ 6)) st := op_pow 10 6 (by decide)
  rw [mindD_ap, run_eq tb__law_no_mind rfl (by decide), L__law_no_mind]
  rw [noMinds] at q3
  simp_arith [mu1, mu2, mu3, sl_tup, ct, ad, ad2, pw, q3, q2.back ((hN d q1).1)]
def noLots (n : Nat) : List D := [.non, .lst [.int 0], .tup [.int ((2 ^ n : Nat) : Int)], .tup [.int (-1)], .tup [.int 0, .int 0], .tup [.non], .tup [.bl true], .str "0", .tup [.str "0"], .int 0, .tup [.int 1, .int 0], .dct [] []]
theorem noLots_ok {n : Nat} : ∀ d ∈ noLots n, d.nr = true ∧ okN 1 d = true ∧ isLotD (2 ^ n) d = false := by
  intro d hd
  simp only [noLots, List.mem_cons, List.not_mem_nil, or_false] at hd
  rcases hd with rfl | rfl | rfl | rfl | rfl | rfl | rfl | rfl | rfl | rfl | rfl | rfl
  · exact ⟨nr_non, rfl, rfl⟩
  · exact ⟨by simp [nr_lst, nrL_cons, nrL_nil, nr_int], rfl, rfl⟩
  · refine ⟨by simp [nr_tup, nrL_cons, nrL_nil, nr_int], rfl, ?_⟩
    unfold isLotD
    simp [toInts]
    omega
  · refine ⟨by simp [nr_tup, nrL_cons, nrL_nil, nr_int], rfl, ?_⟩
    unfold isLotD
    simp [toInts]
  · refine ⟨by simp [nr_tup, nrL_cons, nrL_nil, nr_int], rfl, ?_⟩
    unfold isLotD
    simp [toInts, ascB]
  · exact ⟨by simp [nr_tup, nrL_cons, nrL_nil, nr_non], rfl, rfl⟩
  · exact ⟨by simp [nr_tup, nrL_cons, nrL_nil, nr_bl], rfl, rfl⟩
  · exact ⟨nr_str _, rfl, rfl⟩
  · exact ⟨by simp [nr_tup, nrL_cons, nrL_nil, nr_str], rfl, rfl⟩
  · exact ⟨nr_int _, rfl, rfl⟩
  · refine ⟨by simp [nr_tup, nrL_cons, nrL_nil, nr_int], rfl, ?_⟩
    unfold isLotD
    simp [toInts, ascB]
  · exact ⟨by simp [nr_dct, nrL_nil], rfl, rfl⟩
theorem no_lot_ok {h n : Nat} (hh : HandAt st h) (hn : 1 ≤ n) : ∃ d st', okN 1 d = true ∧ isLotD (2 ^ n) d = false ∧ Upd h st st' ∧ runF tab.tb sub (k + 3) m "_law_no_lot" [.ref h, .int ((2 ^ n : Nat) : Int)] st = .ok d st' := by
  have h2 : 2 ≤ 2 ^ n := by
    have : 2 ^ 1 ≤ 2 ^ n := Nat.pow_le_pow_right (by decide) hn
    omega
  have z : (1 : Int) < ((2 ^ n : Nat) : Int) := by omega
  have hN := noLots_ok (n := n)
  obtain ⟨d, st', q1, q2, q3⟩ := some_ok (sub := sub) (k := k) (m := false) (l := noLots n) hh (by simp [noLots]) (by simp [noLots]) (fun d hd => (hN d hd).1)
  refine ⟨d, st', (hN d q1).2.1, (hN d q1).2.2, q2, ?_⟩
  rw [run_eq tb__law_no_lot rfl (by decide), L__law_no_lot]
  rw [noLots] at q3
  simp_arith [z, newK_f, q3, q2.back ((hN d q1).1)]
/-! ### the news for a goal -/
def wideF (os : List (Option Int)) (goal : List Nat) : Option (List Nat) :=
  if goal = [] then none else if none ∈ goal.map (fun w => os[w]!) then none else if minI (told os goal) = maxI (told os goal) then some ((goal ++ (List.range os.length).filter fun w => os[w]!.isNone || (match os[w]!, minI (told os goal) with
    | some r, some i => decide (i < r)
    | _, _ => false)).mergeSort fun a b => decide (a ≤ b)) else none
def tNo : Option (List Nat) → D
  | none => .non
  | some l => .tup (l.map nD)
theorem told_full {os : List (Option Int)} : ∀ {goal : List Nat}, none ∉ goal.map (fun w => os[w]!) → (goal.map fun w => oD os[w]!) = (told os goal).map .int ∧ (told os goal).length = goal.length
  | [], _ => ⟨rfl, rfl⟩
  | w :: g, h => by
    rw [List.map_cons, List.mem_cons, not_or] at h
    obtain ⟨h1, h2⟩ := told_full h.2
    unfold told at *
    cases e : os[w]! with
    | none => exact absurd e.symm h.1
    | some i =>
      rw [List.filterMap_cons, List.map_cons, e]
      exact ⟨by rw [h1]; rfl, by rw [List.length_cons, List.length_cons, h2]⟩
end K66
namespace K66
open PySem PI
variable {sub : Str → Str → Option Bool} {k : Nat} {m : Bool} {st : Store}
def nrS (b : Bool) : Str := if b then "letters" else "lots"
def nrD (b : Bool) : D := .str (nrS b)
theorem nrD_ap (b : Bool) : nrD b = .str (nrS b) := rfl
def pc : Nat → Nat → Nat
  | 0, _ => 0
  | k + 1, n => n % 2 + pc k (n / 2)
def apN (w o : Nat) : Nat := pc 6 (w ^^^ o)
theorem pc_z : ∀ k, pc k 0 = 0
  | 0 => rfl
  | k + 1 => by show 0 % 2 + pc k (0 / 2) = 0; rw [pc_z k]
theorem lt_loop : ∀ (j n c fuel : Nat), n < 2 ^ j → j < fuel → ∀ {a b : Option D}, whlL (evT ⟨runF tab.tb sub k, sub⟩ L_apart_t0) (evSs ⟨runF tab.tb sub k, sub⟩ L_apart_b1) fuel [a, b, some (.int (n : Int)), some (.int (c : Int))] st = .ok .nx [a, b, some (.int 0), some (.int ((c + pc j n : Nat) : Int))] st := by
  have stop : ∀ (c fuel : Nat), 0 < fuel → ∀ {a b : Option D}, whlL (evT ⟨runF tab.tb sub k, sub⟩ L_apart_t0) (evSs ⟨runF tab.tb sub k, sub⟩ L_apart_b1) fuel [a, b, some (.int 0), some (.int (c : Int))] st = .ok .nx [a, b, some (.int 0), some (.int (c : Int))] st := by
    intro c fuel hf a b
    obtain ⟨fuel, rfl⟩ : ∃ n', fuel = n' + 1 := ⟨fuel - 1, by omega⟩
    refine whl_0 ?_
    rw [L_apart_t0]
    simp_arith [Int.lt_irrefl]
  intro j
  induction j with
  | zero =>
    intro n c fuel hn hf a b
    have : n = 0 := by simpa using hn
    subst this
    exact stop c fuel hf
  | succ j ih =>
    intro n c fuel hn hf a b
    by_cases h0 : n = 0
    · subst h0
      rw [pc_z]
      exact stop c fuel (by omega)
    · obtain ⟨fuel, rfl⟩ : ∃ n', fuel = n' + 1 := ⟨fuel - 1, by omega⟩
      have h2 : n / 2 < 2 ^ j := by rw [Nat.pow_succ] at hn; omega
      have z := ih (n / 2) (c + n % 2) fuel h2 (by omega) (a := a) (b := b)
      rw [Nat.add_assoc] at z
      show _ = SRes.ok .nx [a, b, some (.int 0), some (.int ((c + (n % 2 + pc j (n / 2)) : Nat) : Int))] st
      rw [← z]
      have z1 : (0 : Int) < (n : Int) := by omega
      have z2 : Builtin.bitAnd (n : Int) 1 = ((n % 2 : Nat) : Int) := by
        have := bitAnd_nat n 1
        rw [Nat.and_one_is_mod] at this
        exact this
      have z3 : (n : Int) / 2 ^ (1 : Int).toNat = ((n / 2 : Nat) : Int) := by
        rw [show (1 : Int).toNat = 1 from rfl, Int.pow_one]; omega
      refine whl_1 ?_ ?_
      · rw [L_apart_t0]
        simp_arith [z1]
      · rw [L_apart_b1]
        simp_arith [z2, z3]
        first | done | rfl | (rw [← Int.natCast_add]; rfl)
theorem xor_lt {w o : Nat} (hw : w < 64) (ho : o < 64) : w ^^^ o < 64 := Nat.xor_lt_two_pow (n := 6) hw ho
theorem apart_ok {w o : Nat} (hw : w < 64) (ho : o < 64) : runF tab.tb sub (k + 1) m "apart" [.int (w : Int), .int (o : Int)] st = .ok (.int ((apN w o : Nat) : Int)) st := by
  have z {st : Store} {a b : Option D} : evS ⟨runF tab.tb sub k, sub⟩ L_apart_w2 [a, b, some (.int ((w ^^^ o : Nat) : Int)), some (.int 0)] st = .ok .nx [a, b, some (.int 0), some (.int ((apN w o : Nat) : Int))] st := by
    rw [L_apart_w2, s_whl]
    have := lt_loop (sub := sub) (k := k) (st := st) 6 (w ^^^ o) 0 turns (xor_lt hw ho) (by unfold turns; omega) (a := a) (b := b)
    rw [Nat.zero_add] at this
    exact this
  rw [run_eq tb_apart rfl (by decide), L_apart]
  simp_arith [op_xorN hw ho, z]
def lessF (b : Bool) (w one other : Nat) : Bool := if b then decide (apN w one < apN w other) else decide (w ^^^ one ≠ w ^^^ other) && decide ((w ^^^ one) - ((w ^^^ one) &&& (w ^^^ other)) = 0)
theorem c_near (b : Bool) : cmpD .eq (nrD b) (.str "letters") st = .ok b st := by
  cases b
  · rw [nrD_ap, c_eq (by nofun) (by nofun) (by rw [plain_eq, fit_str]; decide +kernel) (by rw [plain_eq, fit_str]; decide +kernel), eqv_str]; rfl
  · rw [nrD_ap, c_eq (by nofun) (by nofun) (by rw [plain_eq, fit_str]; decide +kernel) (by rw [plain_eq, fit_str]; decide +kernel), eqv_str]; rfl
theorem is_less_ok {b : Bool} {w one other : Nat} (hw : w < 64) (h1 : one < 64) (h2 : other < 64) : runF tab.tb sub (k + 2) m "is_less" [.int (w : Int), .int (one : Int), .int (other : Int), nrD b] st = .ok (.bl (lessF b w one other)) st := by
  have e1 {st : Store} := apart_ok (sub := sub) (k := k) (m := false) (st := st) hw h1
  have e2 {st : Store} := apart_ok (sub := sub) (k := k) (m := false) (st := st) hw h2
  rw [run_eq tb_is_less rfl (by decide), L_is_less]
  have z : decide (((apN w one : Nat) : Int) < ((apN w other : Nat) : Int)) = decide (apN w one < apN w other) := decide_eq_decide.mpr (by omega)
  have z2 : decide (((w ^^^ one : Nat) : Int) = ((w ^^^ other : Nat) : Int)) = decide (w ^^^ one = w ^^^ other) := decide_eq_decide.mpr (by omega)
  have z3 : decide ((((w ^^^ one) - ((w ^^^ one) &&& (w ^^^ other)) : Nat) : Int) = 0) = decide ((w ^^^ one) - ((w ^^^ one) &&& (w ^^^ other)) = 0) := decide_eq_decide.mpr (by omega)
  cases b with
  | true => simp_arith [c_near, e1, e2, z, lessF]
  | false =>
    by_cases q : w ^^^ one = w ^^^ other
    · simp_arith [c_near, op_xorN hw h1, op_xorN hw h2, q, bit_andNot, lessF, ne_eq]
    · have q2 : ¬ (((w ^^^ one : Nat) : Int) = ((w ^^^ other : Nat) : Int)) := by omega
      simp_arith [c_near, op_xorN hw h1, op_xorN hw h2, decide_eq_false q, decide_eq_false q2, bit_andNot, lessF, ne_eq, z3, q]
def nearF (b : Bool) (w : Nat) (lot : List Nat) : List Nat := lot.filter fun one => !(lot.any fun other => lessF b w other one)
theorem any_map' {l : List Nat} {f : Nat → Bool} : (l.map f).any id = l.any f := by rw [List.any_map]; rfl
theorem nearest_of_ok {b : Bool} {w : Nat} {lot : List Nat} (hw : w < 64) (hl : lot.length ≤ 1000) (hlot : ∀ x ∈ lot, x < 64) : runF tab.tb sub (k + 3) m "nearest_of" [.int (w : Int), .tup (lot.map nD), nrD b] st = .ok (.tup ((nearF b w lot).map nD)) st := by
  have c0 {one : Nat} (h1 : one < 64) {a : Option D} : evE ⟨runF tab.tb sub (k + 2), sub⟩ L_nearest_of_c0 [some (.int (w : Int)), some (.tup (lot.map nD)), some (nrD b), some (.int (one : Int)), a] st = .ok (.lst ((lot.map fun other => lessF b w other one).map .bl)) st := by
    refine comp_m nD (fun other => lessF b w other one) .bl (src := ⟨[], lot.map nD, false⟩) (by simp_arith) rfl rfl (by omega) (fun a ha => ?_)
    have e {st : Store} := is_less_ok (sub := sub) (k := k) (m := false) (st := st) (b := b) hw (hlot a ha) h1
    simp_arith [e]
  have c1 {a c : Option D} : evE ⟨runF tab.tb sub (k + 2), sub⟩ L_nearest_of_c1 [some (.int (w : Int)), some (.tup (lot.map nD)), some (nrD b), a, c] st = .ok (.lst ((nearF b w lot).map nD)) st := by
    have z := comp_f (F := ⟨runF tab.tb sub (k + 2), sub⟩) (ρ := [some (.int (w : Int)), some (.tup (lot.map nD)), some (nrD b), a, c]) (st := st) (elt := .v 3) (vs := [3]) (tg := .nm 3) (it := .seq (.v 1)) (c := (.cons (.not (.bi false .any (.cons L_nearest_of_c0 .nil))) .nil)) (l := lot) nD (fun one => !(lot.any fun other => lessF b w other one)) id nD (src := ⟨[], lot.map nD, false⟩) (by simp_arith) rfl rfl (by omega) (fun a ha => by
      simp_arith [c0 (hlot a ha), any_map', id])
    rw [List.map_id] at z
    exact z
  have hf : (nearF b w lot).length ≤ lot.length := List.length_filter_le _ _
  rw [run_eq tb_nearest_of rfl (by decide), L_nearest_of]
  simp_arith [c1]
theorem nearF_mem {b : Bool} {w x : Nat} {lot : List Nat} (h : x ∈ nearF b w lot) : x ∈ lot := (List.mem_filter.mp h).1
theorem nearF_len (b : Bool) (w : Nat) (lot : List Nat) : (nearF b w lot).length ≤ lot.length := List.length_filter_le _ _
end K66
namespace K66
open PySem PI
variable {sub : Str → Str → Option Bool} {k : Nat} {m : Bool} {st : Store}
theorem need_near_t {b : Bool} : runF tab.tb sub (k + 1) m "need_near" [nrD b] st = .ok .non st := by
  rw [run_eq tb_need_near rfl (by decide), L_need_near]
  have z2 : D.fitL [.str "letters", .str "lots"] 49 = true := by decide +kernel
  have z1 : D.fitN (nrD b) 50 = true := by cases b <;> decide +kernel
  have z : memD (nrD b) [.str "letters", .str "lots"] = true := by cases b <;> decide +kernel
  have z3 {st : Store} := in_tup (st := st) z1 z2
  rw [nrD_ap] at z z3 ⊢
  simp_arith [z3, z]
def oddNear : List D := [.non, .str "Letters", .str "", .int 0, .lst [.str "lots"], .str "none"]
theorem need_near_f {d : D} (h : d ∈ oddNear) : runF tab.tb sub (k + 1) m "need_near" [d] st = .err "NoWord" [] st := by
  rw [run_eq tb_need_near rfl (by decide), L_need_near]
  have z2 : D.fitL [.str "letters", .str "lots"] 49 = true := by decide +kernel
  simp only [oddNear, List.mem_cons, List.not_mem_nil, or_false] at h
  have w1 {st : Store} := in_tup (st := st) (x := .str "Letters") (by decide +kernel) z2
  have w2 {st : Store} := in_tup (st := st) (x := .str "") (by decide +kernel) z2
  have w3 {st : Store} := in_tup (st := st) (x := .str "none") (by decide +kernel) z2
  have y1 : memD (.str "Letters") [.str "letters", .str "lots"] = false := by decide +kernel
  have y2 : memD (.str "") [.str "letters", .str "lots"] = false := by decide +kernel
  have y3 : memD (.str "none") [.str "letters", .str "lots"] = false := by decide +kernel
  rcases h with rfl | rfl | rfl | rfl | rfl | rfl <;> simp_arith [w1, w2, w3, y1, y2, y3]
theorem lot_lt {n : Nat} {l : List Nat} (h2 : n ≤ 6) (h : LotOk n l) : ∀ x ∈ l, x < 64 := fun x hx => Nat.lt_of_lt_of_le (h.2 x hx) (Nat.pow_le_pow_right (n := 2) (by decide) h2)
theorem w_lt {n w : Nat} (h2 : n ≤ 6) (h : w < 2 ^ n) : w < 64 := Nat.lt_of_lt_of_le h (Nat.pow_le_pow_right (n := 2) (by decide) h2)
theorem one_lot {n w : Nat} (h : w < 2 ^ n) : LotOk n [w] := ⟨List.pairwise_singleton _ _, fun x hx => by rw [List.mem_singleton] at hx; rw [hx]; exact h⟩
theorem nearest_ok {b : Bool} {n w : Nat} {lot : List Nat} (h1 : 1 ≤ n) (h2 : n ≤ 6) (hw : w < 2 ^ n) (hl : LotOk n lot) : runF tab.tb sub (k + 6) m "nearest" [.int (n : Int), .int (w : Int), .tup (lot.map nD), nrD b] st = .ok (.tup ((nearF b w lot).map nD)) st := by
  have e1 {m : Bool} {k : Nat} {st : Store} := need_lot_t (sub := sub) (k := k) (m := m) (st := st) h1 h2 hl
  have e2 {m : Bool} {k : Nat} {st : Store} := need_lot_t (sub := sub) (k := k) (m := m) (st := st) h1 h2 (one_lot hw)
  simp only [List.map_cons, List.map_nil, nD_ap] at e2
  have e3 {m : Bool} {k : Nat} {st : Store} := need_near_t (sub := sub) (k := k) (m := m) (st := st) (b := b)
  have hle := hl.le h2
  have e4 {m : Bool} {k : Nat} {st : Store} := nearest_of_ok (sub := sub) (k := k) (m := m) (st := st) (b := b) (lot := lot) (w_lt h2 hw) (by omega) (lot_lt h2 hl)
  have hf := nearF_len b w lot
  rw [run_eq tb_nearest rfl (by decide), L_nearest]
  rw [nrD_ap] at e3 e4 ⊢
  simp_arith [e1, e2, e3, e4]
/-! moved -/
theorem at_end' (st : Store) (o : O) : (st ++ [o])[st.length]? = some o := at_end st o
theorem near_loop {F : Cf} {b : Bool} {w : Nat} {lot acc : List Nat} (hl : lot.length ≤ 1000) (ha : acc.length ≤ 10000) {a c d e : Option D} : ∃ x, forL (.nm 5) (evSs F L_moved_of_b0) ⟨[], (nearF b w lot).map nD, false⟩ ((nearF b w lot).map nD) [a, c, d, some (.ref st.length), some (.int (w : Int)), e] (st ++ [setO acc]) = .ok .nx [a, c, d, some (.ref st.length), some (.int (w : Int)), x] (st ++ [setO ((nearF b w lot).foldl addK acc)]) := by
  have hn := nearF_len b w lot
  obtain ⟨ρ2, s2, h1, _, h2, x, h3⟩ := forL_inv (e := nD) (tg := .nm 5) (body := evSs F L_moved_of_b0) (src := ⟨[], (nearF b w lot).map nD, false⟩)
    (fun pre post ρ s => pre ++ post = nearF b w lot ∧ s = st ++ [setO (pre.foldl addK acc)] ∧ ∃ x, ρ = [a, c, d, some (.ref st.length), some (.int (w : Int)), x])
    (nearF b w lot) [] [a, c, d, some (.ref st.length), some (.int (w : Int)), e] (st ++ [setO acc]) ⟨rfl, rfl, e, rfl⟩
    (fun pre o post ρ s hI => by
      obtain ⟨hp, rfl, x, rfl⟩ := hI
      have hb : (pre.foldl addK acc).length ≤ acc.length + pre.length := once_len _ _
      have hpl : pre.length ≤ (nearF b w lot).length := by rw [← hp, List.length_append]; omega
      refine ⟨rfl, _, by simp_arith; rfl, _, _, ?_, by rw [List.append_assoc]; exact hp, rfl, some (nD o), rfl⟩
      have z := setix_set (a := o) (at_end st (setO (pre.foldl addK acc))) (by omega)
      rw [set_end] at z
      rw [L_moved_of_b0, List.foldl_append, List.foldl_cons, List.foldl_nil]
      simp_arith [z])
    (fun _ _ _ _ => rfl)
  rw [List.nil_append] at h2
  subst h2
  exact ⟨x, by rw [h3] at h1; exact h1⟩
def movedL (b : Bool) (held lot : List Nat) : List Nat := held.flatMap fun w => nearF b w lot
def movedF (b : Bool) (held lot : List Nat) : List Nat := sortN (once (movedL b held lot))
theorem movedL_mem {b : Bool} {held lot : List Nat} {x : Nat} (h : x ∈ movedL b held lot) : x ∈ lot := by
  obtain ⟨w, _, hx⟩ := List.mem_flatMap.mp h
  exact nearF_mem hx
theorem movedF_mem {b : Bool} {held lot : List Nat} {x : Nat} : x ∈ movedF b held lot ↔ ∃ w ∈ held, x ∈ nearF b w lot := by
  unfold movedF
  rw [mem_sortN, mem_once]
  exact List.mem_flatMap
theorem moved_of_ok {b : Bool} {held lot : List Nat} (hh : ∀ x ∈ held, x < 64) (hl : lot.length ≤ 1000) (hlot : ∀ x ∈ lot, x < 64) : runF tab.tb sub (k + 4) m "moved_of" [.tup (held.map nD), .tup (lot.map nD), nrD b] st = .ok (.tup ((movedF b held lot).map nD)) st := by
  obtain ⟨ρ2, s2, h1, h2, h3, x, y, h4⟩ := forL_inv (e := nD) (tg := .nm 4) (body := evSs ⟨runF tab.tb sub (k + 3), sub⟩ L_moved_of_b2) (src := ⟨[], held.map nD, false⟩)
    (fun pre post ρ s => s = st ++ [setO (once (movedL b pre lot))] ∧ (∀ w ∈ post, w < 64) ∧ ∃ x y, ρ = [some (.tup (held.map nD)), some (.tup (lot.map nD)), some (nrD b), some (.ref st.length), x, y])
    held [] [some (.tup (held.map nD)), some (.tup (lot.map nD)), some (nrD b), some (.ref st.length), none, none] (st ++ [setO []]) ⟨rfl, hh, none, none, rfl⟩
    (fun pre w post ρ s hI => by
      obtain ⟨rfl, hp, x, y, rfl⟩ := hI
      have hw := hp w List.mem_cons_self
      have hb : (once (movedL b pre lot)).length ≤ 64 := once_below fun x hx => hlot x (movedL_mem hx)
      have e {m : Bool} {st : Store} := nearest_of_ok (sub := sub) (k := k) (m := m) (st := st) (b := b) hw hl hlot
      obtain ⟨z, q⟩ := near_loop (st := st) (F := ⟨runF tab.tb sub (k + 3), sub⟩) (b := b) (w := w) (lot := lot) (acc := once (movedL b pre lot)) hl (by omega) (a := some (.tup (held.map nD))) (c := some (.tup (lot.map nD))) (d := some (nrD b)) (e := y)
      have eq : once (movedL b (pre ++ [w]) lot) = (nearF b w lot).foldl addK (once (movedL b pre lot)) := by
        unfold movedL once
        rw [List.flatMap_append, List.flatMap_singleton, List.foldl_append]
      refine ⟨rfl, _, by simp_arith; rfl, _, _, ?_, by rw [eq], fun w hw => hp w (List.mem_cons_of_mem _ hw), some (nD w), z, rfl⟩
      rw [L_moved_of_b2, L_moved_of_f1]
      simp_arith [s_for, e, q])
    (fun _ _ _ _ => rfl)
  rw [List.nil_append] at h2
  subst h2
  have f3 : evS ⟨runF tab.tb sub (k + 3), sub⟩ L_moved_of_f3 [some (.tup (held.map nD)), some (.tup (lot.map nD)), some (nrD b), some (.ref st.length), none, none] (st ++ [setO []]) = .ok .nx [some (.tup (held.map nD)), some (.tup (lot.map nD)), some (nrD b), some (.ref st.length), x, y] (st ++ [setO (once (movedL b held lot))]) := by
    rw [L_moved_of_f3, s_for]
    rw [h4] at h1
    simp_arith [h1]
  have hb : (once (movedL b held lot)).length ≤ 64 := once_below fun x hx => hlot x (movedL_mem hx)
  have hb2 := len_sortN (once (movedL b held lot))
  have z0 {st : Store} : newK true [] [] st = .ok (.ref st.length) (st ++ [setO []]) := rfl
  have z1 {m : Bool} := b_sortR (m := m) (at_end st (setO (once (movedL b held lot))))
  have z2 : (movedF b held lot) = sortN (once (movedL b held lot)) := rfl
  have bk := back_d (m := m) (d := .tup ((sortN (once (movedL b held lot))).map nD)) (Kept.app st [setO (once (movedL b held lot))]) (by simp_arith)
  rw [List.take_left' rfl] at bk
  rw [run_eq tb_moved_of rfl (by decide), L_moved_of, z2]
  simp_arith [z0, f3, z1, bk]
theorem moved_ok {b : Bool} {n : Nat} {held lot : List Nat} (h1 : 1 ≤ n) (h2 : n ≤ 6) (hh : LotOk n held) (hl : LotOk n lot) : runF tab.tb sub (k + 6) m "moved" [.int (n : Int), .tup (held.map nD), .tup (lot.map nD), nrD b] st = .ok (.tup ((movedF b held lot).map nD)) st := by
  have e0 {m : Bool} {k : Nat} {st : Store} := need_letters_ok (sub := sub) (k := k) (m := m) (st := st) h1 h2
  have e1 {m : Bool} {k : Nat} {st : Store} := need_lot_t (sub := sub) (k := k) (m := m) (st := st) h1 h2 hl
  have e2 {m : Bool} {k : Nat} {st : Store} := need_lot_t (sub := sub) (k := k) (m := m) (st := st) h1 h2 hh
  have e3 {m : Bool} {k : Nat} {st : Store} := need_near_t (sub := sub) (k := k) (m := m) (st := st) (b := b)
  have hle := hl.le h2
  have e4 {m : Bool} {k : Nat} {st : Store} := moved_of_ok (sub := sub) (k := k) (m := m) (st := st) (b := b) (held := held) (lot := lot) (lot_lt h2 hh) (by omega) (lot_lt h2 hl)
  rw [run_eq tb_moved rfl (by decide), L_moved]
  rw [nrD_ap] at e3 e4 ⊢
  simp_arith [e0, e1, e2, e3, e4]
end K66
namespace K66
open PySem PI
variable {sub : Str → Str → Option Bool} {k : Nat} {m : Bool} {st : Store}
def lesO : Option Int → Option Int → Option Int
  | none, y => y
  | some x, none => some x
  | some x, some y => some (if y < x then y else x)
theorem lesser_ok {x y : Option Int} : runF tab.tb sub (k + 1) m "lesser" [oD x, oD y] st = .ok (oD (lesO x y)) st := by
  rw [run_eq tb_lesser rfl (by decide), L_lesser]
  cases x <;> cases y <;> simp_arith [lesO]
theorem law_lesser_ok {x y : Option Int} : runF tab.tb sub (k + 1) m "_law_lesser" [oD x, oD y] st = .ok (oD (lesO x y)) st := by
  rw [run_eq tb__law_lesser rfl (by decide), L__law_lesser]
  cases x <;> cases y <;> simp_arith [lesO]
theorem ix_ref {n v : Nat} {l : List D} (e : st[n]? = some (.lst l)) (h : v < l.length) : getIx (.ref n) (.int ((v : Nat) : Int)) st = .ok l[v]! st := by
  unfold getIx; dsimp only; rw [e]; dsimp only; rw [place_nat h]; dsimp only; rw [List.getElem?_eq_getElem h]; dsimp only; rw [getElem!_pos l v h]
theorem map_at {α : Type} [Inhabited α] {e : α → D} {l : List α} {v : Nat} (h : v < l.length) : (l.map e)[v]! = e l[v]! := by
  rw [getElem!_pos (l.map e) v (by simpa using h), getElem!_pos l v h, List.getElem_map]
def putL (r : Option Int) (os : List (Option Int)) (v : Nat) : List (Option Int) := os.set v (lesO os[v]! r)
theorem putL_len (r : Option Int) (os : List (Option Int)) (v : Nat) : (putL r os v).length = os.length := by unfold putL; simp
theorem putsL_len (r : Option Int) : ∀ (l : List Nat) (os : List (Option Int)), (l.foldl (putL r) os).length = os.length
  | [], _ => rfl
  | v :: l, os => by rw [List.foldl_cons, putsL_len r l, putL_len]
/-- one world's -/
def stepK (b : Bool) (lot : List Nat) (src os : List (Option Int)) (w : Nat) : List (Option Int) := (nearF b w lot).foldl (putL src[w]!) os
theorem stepK_len (b : Bool) (lot : List Nat) (src os : List (Option Int)) (w : Nat) : (stepK b lot src os w).length = os.length := putsL_len _ _ _
theorem putL_none (os : List (Option Int)) {v : Nat} (h : v < os.length) : putL none os v = os := by
  unfold putL
  have : lesO os[v]! none = os[v]! := by cases os[v]! <;> rfl
  rw [this, getElem!_pos os v h, List.set_getElem_self]
theorem putsL_none : ∀ (l : List Nat) (os : List (Option Int)), (∀ v ∈ l, v < os.length) → l.foldl (putL none) os = os
  | [], _, _ => rfl
  | v :: l, os, h => by
    rw [List.foldl_cons, putL_none os (h v List.mem_cons_self)]
    exact putsL_none l os fun x hx => h x (List.mem_cons_of_mem _ hx)
theorem kept_loop {F : Cf} {b : Bool} {w N : Nat} {lot : List Nat} {r : Option Int} {os : List (Option Int)} (hN : st.length = N) (hF : ∀ {x y : Option Int} {st : Store}, F.cl false "lesser" [oD x, oD y] st = .ok (oD (lesO x y)) st) (hl : ∀ v ∈ lot, v < os.length) {a c d e : Option D} :
    ∃ x, forL (.nm 6) (evSs F L_kept_up_of_b0) ⟨[], (nearF b w lot).map nD, false⟩ ((nearF b w lot).map nD) [a, c, d, some (.ref N), some (.int (w : Int)), some (oD r), e] (st ++ [.lst (os.map oD)]) = .ok .nx [a, c, d, some (.ref N), some (.int (w : Int)), some (oD r), x] (st ++ [.lst (((nearF b w lot).foldl (putL r) os).map oD)]) := by
  subst hN
  obtain ⟨ρ2, s2, h1, _, h2, x, h3⟩ := forL_inv (e := nD) (tg := .nm 6) (body := evSs F L_kept_up_of_b0) (src := ⟨[], (nearF b w lot).map nD, false⟩)
    (fun pre post ρ s => (∀ v ∈ post, v < os.length) ∧ s = st ++ [.lst ((pre.foldl (putL r) os).map oD)] ∧ ∃ x, ρ = [a, c, d, some (.ref st.length), some (.int (w : Int)), some (oD r), x])
    (nearF b w lot) [] [a, c, d, some (.ref st.length), some (.int (w : Int)), some (oD r), e] (st ++ [.lst (os.map oD)]) ⟨fun v hv => hl v (nearF_mem hv), rfl, e, rfl⟩
    (fun pre o post ρ s hI => by
      obtain ⟨hp, rfl, x, rfl⟩ := hI
      have ho := hp o List.mem_cons_self
      have hlen := putsL_len r pre os
      have a1 := at_end st (.lst ((pre.foldl (putL r) os).map oD))
      have z1 := ix_ref a1 (v := o) (by rw [List.length_map, hlen]; exact ho)
      rw [map_at (by rw [hlen]; exact ho)] at z1
      have z2 := set_ref (d := oD (lesO (pre.foldl (putL r) os)[o]! r)) a1 (v := o) (by rw [List.length_map, hlen]; exact ho)
      rw [← List.map_set, set_end] at z2
      refine ⟨rfl, _, by simp_arith; rfl, _, _, ?_, fun v hv => hp v (List.mem_cons_of_mem _ hv), rfl, some (nD o), rfl⟩
      rw [L_kept_up_of_b0, List.foldl_append, List.foldl_cons, List.foldl_nil]
      simp_arith [z1, hF, z2, putL])
    (fun _ _ _ _ => rfl)
  rw [List.nil_append] at h2
  subst h2
  exact ⟨x, by rw [h3] at h1; exact h1⟩
def rawK (b : Bool) (lot : List Nat) (src : List (Option Int)) : List (Option Int) := (List.range src.length).foldl (stepK b lot src) (List.replicate src.length none)
theorem foldK_len (b : Bool) (lot : List Nat) (src : List (Option Int)) : ∀ (l : List Nat) (os : List (Option Int)), (l.foldl (stepK b lot src) os).length = os.length
  | [], _ => rfl
  | v :: l, os => by rw [List.foldl_cons, foldK_len b lot src l, stepK_len]
theorem mul_ref {x : List D} {n : Nat} {j : Int} (e : st[n]? = some (.lst x)) (h : -(2 ^ 63) ≤ j ∧ j < 2 ^ 63 ∧ x.length * j.toNat ≤ 16777216) : op2 m .mul (.ref n) (.int j) st = newL m (repL x j) st := by
  unfold op2; dsimp only; rw [bind_st, asL_ref e]
  show (if -(2 ^ 63) ≤ j ∧ j < 2 ^ 63 ∧ x.length * j.toNat ≤ sizeLine then newL m (repL x j) else mbad) st = _
  rw [ite_st]
  exact if_pos h
/-- [None] * n, kept -/
theorem nones {n : Nat} (h : n ≤ 1000) : op2 true .mul (.ref st.length) (.int ((n : Nat) : Int)) (st ++ [.lst [.non]]) = .ok (.ref (st.length + 1)) ((st ++ [.lst [.non]]) ++ [.lst ((List.replicate n none).map oD)]) := by
  rw [mul_ref (at_end st _) ⟨by omega, by omega, by simp only [List.length_cons, List.length_nil, Int.toNat_natCast]; omega⟩, repL_1, newL_t (by rw [List.length_replicate]; omega), List.map_replicate, List.length_append]
  rfl
theorem kept_all {b : Bool} {n N : Nat} {os : List (Option Int)} {lot : List Nat} (hN : st.length = N) (hm : MindOk n os) (hl : LotOk n lot) :
    ∃ x y z, evS ⟨runF tab.tb sub (k + 3), sub⟩ L_kept_up_of_f3 [some (mindD n os), some (.tup (lot.map nD)), some (nrD b), some (.ref N), none, none, none] (st ++ [.lst ((List.replicate os.length none).map oD)]) = .ok .nx [some (mindD n os), some (.tup (lot.map nD)), some (nrD b), some (.ref N), x, y, z] (st ++ [.lst ((rawK b lot os).map oD)]) := by
  have hle := hm.le
  have hll := hl.le hm.h2
  have hlot : ∀ v ∈ lot, v < os.length := fun v hv => by rw [hm.len]; exact hl.2 v hv
  obtain ⟨ρ2, s2, q1, q2, q3, x, y, z, q4⟩ := forL_inv (e := fun i => .tup [nD i, oD os[i]!]) (tg := .tp (.cons (.nm 4) (.cons (.nm 5) .nil))) (body := evSs ⟨runF tab.tb sub (k + 3), sub⟩ L_kept_up_of_b2) (src := ⟨[], (List.range os.length).map fun i => .tup [nD i, oD os[i]!], true⟩)
    (fun pre post ρ s => s = st ++ [.lst ((pre.foldl (stepK b lot os) (List.replicate os.length none)).map oD)] ∧ (∀ w ∈ post, w < os.length) ∧ ∃ x y z, ρ = [some (mindD n os), some (.tup (lot.map nD)), some (nrD b), some (.ref N), x, y, z])
    (List.range os.length) [] [some (mindD n os), some (.tup (lot.map nD)), some (nrD b), some (.ref N), none, none, none] (st ++ [.lst ((List.replicate os.length none).map oD)]) ⟨rfl, fun w hw => List.mem_range.mp hw, none, none, none, rfl⟩
    (fun pre w post ρ s hI => by
      obtain ⟨rfl, hp, x, y, z, rfl⟩ := hI
      have hw := hp w List.mem_cons_self
      have hlen := foldK_len b lot os pre (List.replicate os.length none)
      rw [List.length_replicate] at hlen
      have e {m : Bool} {st : Store} := nearest_of_ok (sub := sub) (k := k) (m := m) (st := st) (b := b) (lot := lot) (w := w) (w_lt hm.h2 (by rw [← hm.len]; exact hw)) (by omega) (lot_lt hm.h2 hl)
      obtain ⟨x', q⟩ := kept_loop (st := st) (N := N) (F := ⟨runF tab.tb sub (k + 3), sub⟩) (b := b) (w := w) (lot := lot) (r := os[w]!) (os := pre.foldl (stepK b lot os) (List.replicate os.length none)) hN (fun {x y st} => lesser_ok (sub := sub) (k := k + 2) (m := false) (st := st) (x := x) (y := y)) (by rw [hlen]; exact hlot) (a := some (mindD n os)) (c := some (.tup (lot.map nD))) (d := some (nrD b)) (e := z)
      cases hr : os[w]! with
      | none =>
        refine ⟨rfl, _, by simp_arith [hr]; rfl, _, _, ?_, rfl, fun w hw => hp w (List.mem_cons_of_mem _ hw), some (nD w), some .non, z, rfl⟩
        have eq : stepK b lot os (pre.foldl (stepK b lot os) (List.replicate os.length none)) w = pre.foldl (stepK b lot os) (List.replicate os.length none) := by
          show (nearF b w lot).foldl (putL os[w]!) _ = _
          rw [hr]
          exact putsL_none _ _ fun v hv => by rw [hlen]; exact hlot v (nearF_mem hv)
        rw [L_kept_up_of_b2, List.foldl_append, List.foldl_cons, List.foldl_nil, eq]
        simp_arith
      | some r =>
        rw [hr] at q
        refine ⟨rfl, _, by simp_arith [hr]; rfl, _, _, ?_, rfl, fun w hw => hp w (List.mem_cons_of_mem _ hw), some (nD w), some (.int r), x', rfl⟩
        have eq : stepK b lot os (pre.foldl (stepK b lot os) (List.replicate os.length none)) w = (nearF b w lot).foldl (putL (some r)) (pre.foldl (stepK b lot os) (List.replicate os.length none)) := by
          show (nearF b w lot).foldl (putL os[w]!) _ = _
          rw [hr]
        rw [L_kept_up_of_b2, L_kept_up_of_f1, List.foldl_append, List.foldl_cons, List.foldl_nil, eq]
        rw [oD_some] at q
        simp_arith [s_for, e, q])
    (fun _ _ _ _ => rfl)
  rw [List.nil_append] at q2
  subst q2
  rw [q4] at q1
  refine ⟨x, y, z, ?_⟩
  rw [L_kept_up_of_f3, s_for]
  rw [mindD_ap] at q1 ⊢
  simp_arith
  exact q1
theorem kept_up_of_ok {b : Bool} {n : Nat} {os : List (Option Int)} {lot : List Nat} {lo hi : Int} (hm : MindOk n os) (hl : LotOk n lot)
    (h1 : minI ((rawK b lot os).filterMap id) = some lo) (h2 : maxI ((rawK b lot os).filterMap id) = some hi) (h3 : hi - lo ≤ 1000000) :
    runF tab.tb sub (k + 4) m "kept_up_of" [mindD n os, .tup (lot.map nD), nrD b] st = .ok (mindD n (lowD (rawK b lot os) lo)) st := by
  have hle := hm.le
  have rl : (rawK b lot os).length = os.length := by unfold rawK; rw [foldK_len, List.length_replicate]
  have hN : (st ++ [O.lst [.non]]).length = st.length + 1 := by rw [List.length_append]; rfl
  obtain ⟨x, y, z, f3⟩ := kept_all (sub := sub) (k := k) (b := b) (st := st ++ [.lst [.non]]) hN hm hl
  have ae : ((st ++ [O.lst [.non]]) ++ [.lst ((rawK b lot os).map oD)])[st.length + 1]? = some (.lst ((rawK b lot os).map oD)) := by rw [← hN]; exact at_end _ _
  have e6 {m : Bool} := settled_ok (sub := sub) (k := k + 2) (m := m) (st := (st ++ [.lst [.non]]) ++ [.lst ((rawK b lot os).map oD)]) (x := .ref (st.length + 1)) (src_ref ae) rfl (chk_ref ae) (by omega) h1 h2 h3
  have bk := back_d (m := m) (d := mindD n (lowD (rawK b lot os) lo)) (Kept.app st [.lst [.non], .lst ((rawK b lot os).map oD)]) (by rw [mindD_ap]; simp_arith)
  rw [List.take_left' rfl, show st ++ [O.lst [.non], .lst ((rawK b lot os).map oD)] = (st ++ [O.lst [.non]]) ++ [.lst ((rawK b lot os).map oD)] from by rw [List.append_assoc]; rfl] at bk
  have mk := nones (st := st) (n := os.length) (by omega)
  rw [run_eq tb_kept_up_of rfl (by decide), L_kept_up_of]
  rw [mindD_ap] at f3 bk
  rw [mindD_ap, mindD_ap]
  simp_arith [mk, f3, e6, bk]
end K66
namespace PI
open PySem
/-- a loop that hands back the first it finds -/
theorem forL_find {α : Type} {e : α → D} {tg : T} {body : Env → Store → SRes} {src : Src} {st : Store} (hc : src.chk st = true) (g : α → Option D) (I : Env → Prop) :
    ∀ (l : List α) (ρ : Env), I ρ → (∀ a ∈ l, ∀ ρ, I ρ → ∃ ρ', bindT tg (e a) ρ = some ρ' ∧ ∃ ρ2, I ρ2 ∧ body ρ' st = .ok ((g a).elim .nx .rt) ρ2 st) →
    ∃ ρ2, I ρ2 ∧ forL tg body src (l.map e) ρ st = .ok ((l.findSome? g).elim .nx .rt) ρ2 st
  | [], ρ, h, _ => ⟨ρ, h, by rw [List.map_nil, forL, if_pos hc]; rfl⟩
  | a :: r, ρ, h, hs => by
    obtain ⟨ρ', h1, ρ2, h2, h3⟩ := hs a List.mem_cons_self ρ h
    cases hg : g a with
    | none =>
      rw [hg] at h3
      obtain ⟨ρ3, h4, h5⟩ := forL_find hc g I r ρ2 h2 fun b hb => hs b (List.mem_cons_of_mem _ hb)
      refine ⟨ρ3, h4, ?_⟩
      rw [List.map_cons, forL, if_pos hc, h1]
      dsimp only
      rw [h3]
      rw [Option.elim_none, next_ok, h5, List.findSome?_cons, hg]
    | some d =>
      rw [hg] at h3
      refine ⟨ρ2, h2, ?_⟩
      rw [List.map_cons, forL, if_pos hc, h1]
      dsimp only
      rw [h3]
      rw [Option.elim_some, next_rt, List.findSome?_cons, hg]
      rfl
end PI
namespace K66
open PySem PI
variable {sub : Str → Str → Option Bool} {k : Nat} {m : Bool} {st : Store}
def pD (p : Nat × Nat) : D := .tup [.int (p.1 : Int), .int (p.2 : Int)]
theorem pD_ap (p : Nat × Nat) : pD p = .tup [.int (p.1 : Int), .int (p.2 : Int)] := rfl
def pairsL (b : Bool) (one other : Nat) (lot : List Nat) : List (Nat × Nat) := [one, other].flatMap fun s => (nearF b s lot).map fun w => (s, w)
def apP (p : Nat × Nat) : Int := ((apN p.1 p.2 : Nat) : Int)
def leastP (ps : List (Nat × Nat)) : Int := (minI (ps.map apP)).getD 0
def psub (x y : Nat) : Bool := decide (x ≠ y) && decide (x - (x &&& y) = 0)
def botP (b : Bool) (ps : List (Nat × Nat)) (p : Nat × Nat) : Bool := if b then decide (apP p = leastP ps) else !(ps.any fun q => psub (q.1 ^^^ q.2) (p.1 ^^^ p.2))
def twoF (b : Bool) (one other : Nat) (lot : List Nat) : List Nat := sortN (once (((pairsL b one other lot).filter (botP b (pairsL b one other lot))).map (·.2)))
theorem pairs_mem {b : Bool} {one other : Nat} {lot : List Nat} {p : Nat × Nat} (h : p ∈ pairsL b one other lot) : (p.1 = one ∨ p.1 = other) ∧ p.2 ∈ lot := by
  obtain ⟨s, h1, h2⟩ := List.mem_flatMap.mp h
  obtain ⟨w, h3, rfl⟩ := List.mem_map.mp h2
  simp only [List.mem_cons, List.not_mem_nil, or_false] at h1
  exact ⟨h1, nearF_mem h3⟩
theorem pairs_len {b : Bool} {one other : Nat} {lot : List Nat} : (pairsL b one other lot).length ≤ 2 * lot.length := by
  have h1 := nearF_len b one lot
  have h2 := nearF_len b other lot
  unfold pairsL
  simp only [List.flatMap_cons, List.flatMap_nil, List.append_nil, List.length_append, List.length_map]
  omega
theorem both_ok {b : Bool} {one other : Nat} {lot : List Nat} (ho : one < 64) (ho2 : other < 64) (hl : lot.length ≤ 64) (hlot : ∀ x ∈ lot, x < 64) :
    runF tab.tb sub (k + 4) m "nearest_to_both" [.int (one : Int), .int (other : Int), .tup (lot.map nD), nrD b] st = .ok (.tup ((twoF b one other lot).map nD)) st := by
  have hpl := pairs_len (b := b) (one := one) (other := other) (lot := lot)
  have hps : ∀ p ∈ pairsL b one other lot, p.1 < 64 ∧ p.2 < 64 := fun p hp => by
    obtain ⟨h1, h2⟩ := pairs_mem hp
    exact ⟨by rcases h1 with h1 | h1 <;> rw [h1] <;> assumption, hlot _ h2⟩
  have c0 {x4 x5 x6 x7 x8 x9 x10 x11 x12 x13 : Option D} : evE ⟨runF tab.tb sub (k + 3), sub⟩ L_nearest_to_both_c0 [some (.int (one : Int)), some (.int (other : Int)), some (.tup (lot.map nD)), some (nrD b), x4, x5, x6, x7, x8, x9, x10, x11, x12, x13] st = .ok (.lst ((pairsL b one other lot).map pD)) st := by
    have z := comp2_g (F := ⟨runF tab.tb sub (k + 3), sub⟩) (ρ := [some (.int (one : Int)), some (.int (other : Int)), some (.tup (lot.map nD)), some (nrD b), x4, x5, x6, x7, x8, x9, x10, x11, x12, x13]) (st := st)
      (elt := .tup (.cons (.v 7) (.cons (.v 8) .nil))) (vs := [7, 8]) (vs1 := [8]) (tg := .nm 7) (it := .seq (.tup (.cons (.v 0) (.cons (.v 1) .nil)))) (c := .nil) (tg1 := .nm 8) (it1 := .seq (.own false "nearest_of" (.cons (.v 7) (.cons (.v 2) (.cons (.v 3) .nil))))) (c1 := .nil)
      (l := [one, other]) nD (fun s => nearF b s lot) nD (fun s w => some (s, w)) pD (src := ⟨[], [one, other].map nD, false⟩) (by simp_arith [nD_ap]) rfl rfl
      (by
        have h1 := nearF_len b one lot
        have h2 := nearF_len b other lot
        simp only [List.map_cons, List.map_nil, List.sum_cons, List.sum_nil]; omega)
      (fun s hs => by
        have hs64 : s < 64 := by
          simp only [List.mem_cons, List.not_mem_nil, or_false] at hs
          rcases hs with rfl | rfl <;> assumption
        have e {m : Bool} {st : Store} := nearest_of_ok (sub := sub) (k := k) (m := m) (st := st) (b := b) (w := s) hs64 (by omega) hlot
        refine ⟨_, ⟨[], (nearF b s lot).map nD, false⟩, by simp_arith; rfl, by simp_arith, by simp_arith [e], rfl, rfl, fun w hw => ?_⟩
        simp_arith [Option.map_some, pD_ap])
    rw [L_nearest_to_both_c0, z]
    congr 3
    unfold pairsL
    congr 1
    funext s
    exact fmap_all
  have c1 {x5 x6 x7 x8 x9 x10 x11 x12 x13 : Option D} : evE ⟨runF tab.tb sub (k + 3), sub⟩ L_nearest_to_both_c1 [some (.int (one : Int)), some (.int (other : Int)), some (.tup (lot.map nD)), some (nrD b), some (.lst ((pairsL b one other lot).map pD)), x5, x6, x7, x8, x9, x10, x11, x12, x13] st = .ok (.lst (((pairsL b one other lot).map apP).map .int)) st := by
    refine comp_m pD apP .int (src := ⟨[], (pairsL b one other lot).map pD, true⟩) (by simp_arith) rfl rfl (by omega) (fun p hp => ?_)
    obtain ⟨h1, h2⟩ := hps p hp
    have e {st : Store} := apart_ok (sub := sub) (k := k + 2) (m := false) (st := st) h1 h2
    simp_arith [pD_ap, e, apP]
  have c2 {x5 x7 x8 x9 x10 x11 x12 x13 : Option D} {i : Int} : evE ⟨runF tab.tb sub (k + 3), sub⟩ L_nearest_to_both_c2 [some (.int (one : Int)), some (.int (other : Int)), some (.tup (lot.map nD)), some (nrD b), some (.lst ((pairsL b one other lot).map pD)), x5, some (.int i), x7, x8, x9, x10, x11, x12, x13] st
      = .ok (.dct ((once (((pairsL b one other lot).filter fun p => decide (apP p = i)).map (·.2))).map nD) (List.replicate (once (((pairsL b one other lot).filter fun p => decide (apP p = i)).map (·.2))).length (.bl true))) st := by
    have z := dcomp_set (F := ⟨runF tab.tb sub (k + 3), sub⟩) (ρ := [some (.int (one : Int)), some (.int (other : Int)), some (.tup (lot.map nD)), some (nrD b), some (.lst ((pairsL b one other lot).map pD)), x5, some (.int i), x7, x8, x9, x10, x11, x12, x13]) (st := st)
      (k := .v 8) (x := .c (.bl true)) (vs := [7, 8]) (tg := .tp (.cons (.nm 7) (.cons (.nm 8) .nil))) (it := .seq (.v 4)) (c := (.cons (.cmp .eq (.own false "apart" (.cons (.v 7) (.cons (.v 8) .nil))) (.v 6)) .nil)) (src := ⟨[], (pairsL b one other lot).map pD, true⟩) (l := pairsL b one other lot) eqv_nD fam_nD (.bl true) pD (fun p => if decide (apP p = i) = true then some p.2 else none) (by simp_arith) rfl rfl (by omega) (fun p hp => by
        obtain ⟨h1, h2⟩ := hps p hp
        have e {st : Store} := apart_ok (sub := sub) (k := k + 2) (m := false) (st := st) h1 h2
        by_cases q : apP p = i
        · have q2 : ((apN p.1 p.2 : Nat) : Int) = i := q
          simp_arith [pD_ap, e, q2, q, Option.map_some, nD_ap]
        · have q2 : ¬ ((apN p.1 p.2 : Nat) : Int) = i := q
          simp_arith [pD_ap, e, q2, q, Option.map_none])
    rw [fmap_if] at z
    rw [L_nearest_to_both_c2]; exact z
  have hf {p : Nat × Nat → Bool} : (once (((pairsL b one other lot).filter p).map (·.2))).length ≤ 64 := once_below fun x hx => by
    obtain ⟨q, hq, rfl⟩ := List.mem_map.mp hx
    exact (hps q (List.mem_filter.mp hq).1).2
  cases b with
  | true =>
    have z1 : (minI ((pairsL true one other lot).map apP)).elim (.int 0) .int = D.int (leastP (pairsL true one other lot)) := by
      unfold leastP
      cases minI ((pairsL true one other lot).map apP) <;> rfl
    have hf1 := hf (p := botP true (pairsL true one other lot))
    have hf2 := len_sortN (once (((pairsL true one other lot).filter (botP true (pairsL true one other lot))).map (·.2)))
    have e1 : (fun p => decide (apP p = leastP (pairsL true one other lot))) = botP true (pairsL true one other lot) := by funext p; rfl
    have c2 {x5 x7 x8 x9 x10 x11 x12 x13 : Option D} := c2 (x5 := x5) (x7 := x7) (x8 := x8) (x9 := x9) (x10 := x10) (x11 := x11) (x12 := x12) (x13 := x13) (i := leastP (pairsL true one other lot))
    rw [e1] at c2
    have c3 {st : Store} := c_near (st := st) true
    rw [nrD_ap] at c0 c1 c2 c3
    rw [run_eq tb_nearest_to_both rfl (by decide), L_nearest_to_both, nrD_ap]
    simp_arith [c3, c0, c1, z1, c2, b_sortDn, twoF]
  | false =>
    have pl : ∀ p : Nat × Nat, p ∈ pairsL false one other lot → p.1 ^^^ p.2 < 64 := fun p hp => xor_lt (hps p hp).1 (hps p hp).2
    have c3 {s : Store} {x5 x6 x7 x8 x9 x10 x11 x12 x13 : Option D} : evE ⟨runF tab.tb sub (k + 3), sub⟩ L_nearest_to_both_c3 [some (.int (one : Int)), some (.int (other : Int)), some (.tup (lot.map nD)), some (nrD false), some (.lst ((pairsL false one other lot).map pD)), x5, x6, x7, x8, x9, x10, x11, x12, x13] s = .ok (.lst (((pairsL false one other lot).map fun q => q.1 ^^^ q.2).map nD)) s := by
      refine comp_m pD (fun q => q.1 ^^^ q.2) nD (src := ⟨[], (pairsL false one other lot).map pD, true⟩) (by simp_arith) rfl rfl (by omega) (fun p hp => ?_)
      obtain ⟨h1, h2⟩ := hps p hp
      simp_arith [pD_ap, op_xorN h1 h2, nD_ap]
    have c4 {s : Store} {gap : Nat} {x5 x6 x7 x8 x11 x12 x13 : Option D} : evE ⟨runF tab.tb sub (k + 3), sub⟩ L_nearest_to_both_c4 [some (.int (one : Int)), some (.int (other : Int)), some (.tup (lot.map nD)), some (nrD false), some (.lst ((pairsL false one other lot).map pD)), x5, x6, x7, x8, some (.int (gap : Int)), some (.lst (((pairsL false one other lot).map fun q => q.1 ^^^ q.2).map nD)), x11, x12, x13] s = .ok (.lst ((((pairsL false one other lot).map fun q => q.1 ^^^ q.2).map fun far => psub far gap).map .bl)) s := by
      refine comp_m nD (fun far => psub far gap) .bl (src := ⟨[], ((pairsL false one other lot).map fun q => q.1 ^^^ q.2).map nD, true⟩) (by simp_arith) rfl rfl (by rw [List.length_map]; omega) (fun far hp => ?_)
      have z3 : decide (((far - (far &&& gap) : Nat) : Int) = 0) = decide (far - (far &&& gap) = 0) := decide_eq_decide.mpr (by omega)
      by_cases q : far = gap
      · simp_arith [bit_andNot, psub, ne_eq, q]
      · have q2 : ¬ ((far : Nat) : Int) = ((gap : Nat) : Int) := by omega
        simp_arith [bit_andNot, psub, ne_eq, q, q2, z3]
    have any2 {gap : Nat} : ((((pairsL false one other lot).map fun q => q.1 ^^^ q.2).map fun far => psub far gap).any id) = (pairsL false one other lot).any fun q => psub (q.1 ^^^ q.2) gap := by
      rw [List.any_map, List.any_map]; rfl
    have fl (pre : List (Nat × Nat)) : ((pre.filter (botP false (pairsL false one other lot))).map (·.2)).length ≤ pre.length := by rw [List.length_map]; exact List.length_filter_le _ _
    obtain ⟨ρ2, s2, q1, q2, q3, x7, x8, x9, x10, x11, x12, x13, q4⟩ := forL_inv (e := pD) (tg := .tp (.cons (.nm 7) (.cons (.nm 8) .nil))) (body := evSs ⟨runF tab.tb sub (k + 3), sub⟩ L_nearest_to_both_b5) (src := ⟨[], (pairsL false one other lot).map pD, true⟩)
      (fun pre post ρ s => s = st ++ [.lst (((pre.filter (botP false (pairsL false one other lot))).map (·.2)).map nD)] ∧ pre ++ post = pairsL false one other lot ∧ ∃ x7 x8 x9 x10 x11 x12 x13, ρ = [some (.int (one : Int)), some (.int (other : Int)), some (.tup (lot.map nD)), some (nrD false), some (.lst ((pairsL false one other lot).map pD)), some (.ref st.length), none, x7, x8, x9, x10, x11, x12, x13])
      (pairsL false one other lot) [] [some (.int (one : Int)), some (.int (other : Int)), some (.tup (lot.map nD)), some (nrD false), some (.lst ((pairsL false one other lot).map pD)), some (.ref st.length), none, none, none, none, none, none, none, none] (st ++ [.lst []]) ⟨rfl, rfl, none, none, none, none, none, none, none, rfl⟩
      (fun pre p post ρ s hI => by
        obtain ⟨rfl, hp, x7, x8, x9, x10, x11, x12, x13, rfl⟩ := hI
        have hpm : p ∈ pairsL false one other lot := by rw [← hp]; simp
        obtain ⟨h1, h2⟩ := hps p hpm
        have hlen : pre.length ≤ (pairsL false one other lot).length := by rw [← hp, List.length_append]; omega
        have fl := fl pre
        refine ⟨rfl, _, by rw [pD_ap]; simp_arith; rfl, _, _, ?_, rfl, by rw [List.append_assoc]; exact hp, some (.int (p.1 : Int)), some (.int (p.2 : Int)), some (.int ((p.1 ^^^ p.2 : Nat) : Int)), some (.lst (((pairsL false one other lot).map fun q => q.1 ^^^ q.2).map nD)), x11, x12, x13, rfl⟩
        have z := app_end (st := st) (l := ((pre.filter (botP false (pairsL false one other lot))).map (·.2)).map nD) (nD p.2) (by rw [List.length_map]; omega)
        rw [nD_ap] at z
        rw [L_nearest_to_both_b5, List.filter_append, List.map_append, List.map_append]
        by_cases q : ((pairsL false one other lot).any fun r => psub (r.1 ^^^ r.2) (p.1 ^^^ p.2)) = true
        · have bq : botP false (pairsL false one other lot) p = false := by unfold botP; rw [q]; rfl
          rw [List.filter_cons_of_neg (by rw [bq]; decide), List.filter_nil, List.map_nil, List.map_nil, List.append_nil]
          simp_arith [op_xorN h1 h2, c3, c4, any2, q]
        · have q := Bool.eq_false_iff.mpr q
          have bq : botP false (pairsL false one other lot) p = true := by unfold botP; rw [q]; rfl
          rw [List.filter_cons_of_pos bq, List.filter_nil, List.map_cons, List.map_nil, List.map_cons, List.map_nil, nD_ap]
          simp_arith [op_xorN h1 h2, c3, c4, any2, q, z])
      (fun _ _ _ _ => rfl)
    rw [List.nil_append] at q2
    subst q2
    rw [q4] at q1
    have hf1 := hf (p := botP false (pairsL false one other lot))
    have hf2 := len_sortN (once (((pairsL false one other lot).filter (botP false (pairsL false one other lot))).map (·.2)))
    have f6 : evS ⟨runF tab.tb sub (k + 3), sub⟩ L_nearest_to_both_f6 [some (.int (one : Int)), some (.int (other : Int)), some (.tup (lot.map nD)), some (nrD false), some (.lst ((pairsL false one other lot).map pD)), some (.ref st.length), none, none, none, none, none, none, none, none] (st ++ [.lst []]) = .ok .nx [some (.int (one : Int)), some (.int (other : Int)), some (.tup (lot.map nD)), some (nrD false), some (.lst ((pairsL false one other lot).map pD)), some (.ref st.length), none, x7, x8, x9, x10, x11, x12, x13] (st ++ [.lst (((((pairsL false one other lot).filter (botP false (pairsL false one other lot))).map (·.2)).map nD))]) := by
      rw [L_nearest_to_both_f6, s_for]
      simp_arith
      exact q1
    have c7 : evE ⟨runF tab.tb sub (k + 3), sub⟩ L_nearest_to_both_c7 [some (.int (one : Int)), some (.int (other : Int)), some (.tup (lot.map nD)), some (nrD false), some (.lst ((pairsL false one other lot).map pD)), some (.ref st.length), none, x7, x8, x9, x10, x11, x12, x13] (st ++ [.lst (((((pairsL false one other lot).filter (botP false (pairsL false one other lot))).map (·.2)).map nD))])
        = .ok (.dct ((once (((pairsL false one other lot).filter (botP false (pairsL false one other lot))).map (·.2))).map nD) (List.replicate (once (((pairsL false one other lot).filter (botP false (pairsL false one other lot))).map (·.2))).length (.bl true))) (st ++ [.lst (((((pairsL false one other lot).filter (botP false (pairsL false one other lot))).map (·.2)).map nD))]) := by
      have fl := fl (pairsL false one other lot)
      have z := dcomp_set (F := ⟨runF tab.tb sub (k + 3), sub⟩) (ρ := [some (.int (one : Int)), some (.int (other : Int)), some (.tup (lot.map nD)), some (nrD false), some (.lst ((pairsL false one other lot).map pD)), some (.ref st.length), none, x7, x8, x9, x10, x11, x12, x13]) (st := st ++ [.lst (((((pairsL false one other lot).filter (botP false (pairsL false one other lot))).map (·.2)).map nD))])
        (k := .v 8) (x := .c (.bl true)) (vs := [8]) (tg := .nm 8) (it := .seq (.v 5)) (c := .nil) (src := ⟨[(st.length, .lst (((((pairsL false one other lot).filter (botP false (pairsL false one other lot))).map (·.2)).map nD)))], ((((pairsL false one other lot).filter (botP false (pairsL false one other lot))).map (·.2)).map nD), true⟩) (l := ((pairsL false one other lot).filter (botP false (pairsL false one other lot))).map (·.2)) eqv_nD fam_nD (.bl true) nD some (by simp_arith) rfl (chk_end _ _ _) (by omega) (fun p hp => by simp_arith [Option.map_some, nD_ap])
      rw [List.filterMap_some] at z
      rw [L_nearest_to_both_c7]; exact z
    have bk := back_d (m := m) (d := .tup ((sortN (once (((pairsL false one other lot).filter (botP false (pairsL false one other lot))).map (·.2)))).map nD)) (Kept.app st [.lst (((((pairsL false one other lot).filter (botP false (pairsL false one other lot))).map (·.2)).map nD))]) (by simp_arith)
    rw [List.take_left' rfl] at bk
    have c8 {st : Store} := c_near (st := st) false
    rw [nrD_ap] at c0 f6 c7 c8
    rw [run_eq tb_nearest_to_both rfl (by decide), L_nearest_to_both, nrD_ap]
    simp_arith [c8, c0, f6, c7, b_sortDn, bk, twoF]
/-! first_unlike -/
def findU (u : Nat → Nat → Bool) (N : Nat) : Option (Nat × Nat) := (List.range N).findSome? fun one => ((List.range' (one + 1) (N - (one + 1))).findSome? fun other => if u one other = true then some (one, other) else none)
def oP : Option (Nat × Nat) → D
  | none => .non
  | some p => pD p
theorem some_map {α β γ : Type} {g : α → Option β} {f : β → γ} : ∀ l : List α, (l.findSome? fun a => (g a).map f) = (l.findSome? g).map f
  | [] => rfl
  | a :: l => by
    rw [List.findSome?_cons, List.findSome?_cons]
    cases g a with
    | none => exact some_map l
    | some b => rfl
theorem elim_map {β γ δ : Type} {o : Option β} {f : β → γ} {n : δ} {s : γ → δ} : (o.map f).elim n s = o.elim n fun x => s (f x) := by cases o <;> rfl
def unlF (b : Bool) (lot : List Nat) (one other : Nat) : Bool := !decide (movedF b [one, other] lot = twoF b one other lot)
theorem first_ok {b : Bool} {n : Nat} {lot : List Nat} (h1 : 1 ≤ n) (h2 : n ≤ 6) (hl : LotOk n lot) : runF tab.tb sub (k + 6) m "first_unlike" [.int (n : Int), .tup (lot.map nD), nrD b] st = .ok (oP (findU (unlF b lot) (2 ^ n))) st := by
  have e1 {m : Bool} {k : Nat} {st : Store} := need_lot_t (sub := sub) (k := k) (m := m) (st := st) h1 h2 hl
  have e3 {m : Bool} {k : Nat} {st : Store} := need_near_t (sub := sub) (k := k) (m := m) (st := st) (b := b)
  have hle := hl.le h2
  have hp : 2 ^ n ≤ 64 := Nat.pow_le_pow_right (n := 2) (by decide) h2
  have inner {one : Nat} (ho : one < 2 ^ n) {x5 x6 : Option D} : ∃ y5 y6, evS ⟨runF tab.tb sub (k + 5), sub⟩ L_first_unlike_f1 [some (.int (n : Int)), some (.tup (lot.map nD)), some (nrD b), some (.int ((2 ^ n : Nat) : Int)), some (.int (one : Int)), x5, x6] st = .ok ((((List.range' (one + 1) (2 ^ n - (one + 1))).findSome? fun other => if unlF b lot one other = true then some (one, other) else none).map pD).elim .nx .rt) [some (.int (n : Int)), some (.tup (lot.map nD)), some (nrD b), some (.int ((2 ^ n : Nat) : Int)), some (.int (one : Int)), y5, y6] st := by
    obtain ⟨ρ2, ⟨y5, y6, q1⟩, q2⟩ := forL_find (e := nD) (tg := .nm 5) (body := evSs ⟨runF tab.tb sub (k + 5), sub⟩ L_first_unlike_b0) (src := ⟨[], (List.range' (one + 1) (2 ^ n - (one + 1))).map nD, true⟩) (st := st) rfl (fun other => (if unlF b lot one other = true then some (one, other) else none).map pD)
      (fun ρ => ∃ y5 y6, ρ = [some (.int (n : Int)), some (.tup (lot.map nD)), some (nrD b), some (.int ((2 ^ n : Nat) : Int)), some (.int (one : Int)), y5, y6]) (List.range' (one + 1) (2 ^ n - (one + 1))) [some (.int (n : Int)), some (.tup (lot.map nD)), some (nrD b), some (.int ((2 ^ n : Nat) : Int)), some (.int (one : Int)), x5, x6] ⟨x5, x6, rfl⟩
      (fun other ho2 ρ hI => by
        obtain ⟨y5, y6, rfl⟩ := hI
        rw [List.mem_range'_1] at ho2
        have ho64 : other < 64 := by omega
        have m1 {m : Bool} {st : Store} := moved_of_ok (sub := sub) (k := k + 1) (m := m) (st := st) (b := b) (held := [one, other]) (lot := lot) (fun x hx => by
          simp only [List.mem_cons, List.not_mem_nil, or_false] at hx
          rcases hx with rfl | rfl <;> omega) (by omega) (lot_lt h2 hl)
        simp only [List.map_cons, List.map_nil, nD_ap] at m1
        have m2 {m : Bool} {st : Store} := both_ok (sub := sub) (k := k + 1) (m := m) (st := st) (b := b) (one := one) (other := other) (lot := lot) (by omega) ho64 hle (lot_lt h2 hl)
        have ne {st : Store} : cmpD .ne (.tup ((movedF b [one, other] lot).map nD)) (.tup ((twoF b one other lot).map nD)) st = .ok (unlF b lot one other) st := by
          rw [c_ne_tt _ _ (fitL_nD _ _) (fitL_nD _ _), eqvL_nD]; rfl
        refine ⟨_, by simp_arith; rfl, _, ⟨some (.int (other : Int)), some (.tup ((movedF b [one, other] lot).map nD)), rfl⟩, ?_⟩
        rw [L_first_unlike_b0]
        cases q : unlF b lot one other
        · simp_arith [m1, m2, ne, q, Option.map_none, Option.elim_none]
        · simp_arith [m1, m2, ne, q, Option.map_some, Option.elim_some, pD_ap])
    refine ⟨y5, y6, ?_⟩
    subst q1
    rw [some_map] at q2
    have r2 {st : Store} : rangeSrc [.int ((one : Int) + 1), .int ((2 ^ n : Nat) : Int)] st = .ok ⟨[], (List.range' (one + 1) (2 ^ n - (one + 1))).map nD, true⟩ st := by
      have := rng2 (st := st) (one + 1) (2 ^ n) (by omega) (by omega)
      exact this
    rw [L_first_unlike_f1, s_for]
    simp_arith [r2, q2]
  obtain ⟨ρ2, ⟨y4, y5, y6, q1⟩, q2⟩ := forL_find (e := nD) (tg := .nm 4) (body := evSs ⟨runF tab.tb sub (k + 5), sub⟩ L_first_unlike_b2) (src := ⟨[], (List.range (2 ^ n)).map nD, true⟩) (st := st) rfl (fun one => (((List.range' (one + 1) (2 ^ n - (one + 1))).findSome? fun other => if unlF b lot one other = true then some (one, other) else none).map pD))
    (fun ρ => ∃ y4 y5 y6, ρ = [some (.int (n : Int)), some (.tup (lot.map nD)), some (nrD b), some (.int ((2 ^ n : Nat) : Int)), y4, y5, y6]) (List.range (2 ^ n)) [some (.int (n : Int)), some (.tup (lot.map nD)), some (nrD b), some (.int ((2 ^ n : Nat) : Int)), none, none, none] ⟨none, none, none, rfl⟩
    (fun one ho ρ hI => by
      obtain ⟨y4, y5, y6, rfl⟩ := hI
      obtain ⟨z5, z6, q⟩ := inner (List.mem_range.mp ho) (x5 := y5) (x6 := y6)
      refine ⟨_, by simp_arith; rfl, _, ⟨some (.int (one : Int)), z5, z6, rfl⟩, ?_⟩
      rw [L_first_unlike_b2]
      cases hq : ((List.range' (one + 1) (2 ^ n - (one + 1))).findSome? fun other => if unlF b lot one other = true then some (one, other) else none).map pD
      · rw [hq] at q
        simp_arith [q, Option.elim_none]
      · rw [hq] at q
        simp_arith [q, Option.elim_some])
  subst q1
  rw [some_map] at q2
  have r2 {st : Store} : rangeSrc [.int ((2 ^ n : Nat) : Int)] st = .ok ⟨[], (List.range (2 ^ n)).map nD, true⟩ st := rng1 (2 ^ n) (by omega)
  have f3 : evS ⟨runF tab.tb sub (k + 5), sub⟩ L_first_unlike_f3 [some (.int (n : Int)), some (.tup (lot.map nD)), some (nrD b), some (.int ((2 ^ n : Nat) : Int)), none, none, none] st = .ok (((findU (unlF b lot) (2 ^ n)).map pD).elim .nx .rt) [some (.int (n : Int)), some (.tup (lot.map nD)), some (nrD b), some (.int ((2 ^ n : Nat) : Int)), y4, y5, y6] st := by
    rw [L_first_unlike_f3, s_for]
    simp_arith [r2]
    exact q2
  have sh : op2 false .shl (.int 1) (.int (n : Int)) st = .ok (.int ((2 ^ n : Nat) : Int)) st := by
    rw [op_shl1 _ (by omega)]
  rw [run_eq tb_first_unlike rfl (by decide), L_first_unlike]
  rw [nrD_ap] at e3 f3 ⊢
  cases hq : findU (unlF b lot) (2 ^ n) with
  | none =>
    rw [hq, Option.map_none, Option.elim_none] at f3
    simp_arith [e1, e3, f3, oP]
  | some p =>
    rw [hq, Option.map_some, Option.elim_some, pD_ap] at f3
    simp_arith [e1, e3, f3, oP, pD_ap]
end K66
namespace K66
open PySem PI
variable {sub : Str → Str → Option Bool} {k : Nat} {m : Bool} {st : Store}
def lN (l : List Nat) : D := .lst (l.map nD)
theorem lN_ap (l : List Nat) : lN l = .lst (l.map nD) := rfl
theorem nrL_lN (l : List (List Nat)) : D.nrL (l.map lN) = true := by
  rw [nrL_all, List.all_map, List.all_eq_true]; intro x _; exact nrL_nD x
def gapL (n a b : Nat) : List Nat := (List.range n).filter fun i => !decide (a / 2 ^ i % 2 = b / 2 ^ i % 2)
theorem gapL_len (n a b : Nat) : (gapL n a b).length ≤ n := by
  have := List.length_filter_le (fun i => !decide (a / 2 ^ i % 2 = b / 2 ^ i % 2)) (List.range n)
  rwa [List.length_range] at this
theorem law_gap_ok {n a b : Nat} (hn : n ≤ 6) : runF tab.tb sub (k + 1) m "_law_gap" [.int (n : Int), .int (a : Int), .int (b : Int)] st = .ok (lN (gapL n a b)) st := by
  have hg := gapL_len n a b
  have r1 {st : Store} : rangeSrc [.int (n : Int)] st = .ok ⟨[], (List.range n).map nD, true⟩ st := rng1 n (by omega)
  have c0 {x : Option D} : evE ⟨runF tab.tb sub k, sub⟩ L__law_gap_c0 [some (.int (n : Int)), some (.int (a : Int)), some (.int (b : Int)), x] st = .ok (.lst ((gapL n a b).map nD)) st := by
    have z := comp_f (F := ⟨runF tab.tb sub k, sub⟩) (ρ := [some (.int (n : Int)), some (.int (a : Int)), some (.int (b : Int)), x]) (st := st) (elt := .v 3) (vs := [3]) (tg := .nm 3) (it := .rng (.cons (.v 0) .nil))
      (c := (.cons (.cmp .ne (.bin false .mod (.bi false .int (.cons (.bin false .fdiv (.v 1) (.bin false .shl (.c (.int 1)) (.v 3))) .nil)) (.c (.int 2))) (.bin false .mod (.bi false .int (.cons (.bin false .fdiv (.v 2) (.bin false .shl (.c (.int 1)) (.v 3))) .nil)) (.c (.int 2)))) .nil))
      (l := List.range n) nD (fun i => !decide (a / 2 ^ i % 2 = b / 2 ^ i % 2)) id nD (src := ⟨[], (List.range n).map nD, true⟩) (by simp_arith [r1]) rfl rfl (by simp; omega) (fun i hi => by
        have hi := List.mem_range.mp hi
        have hp : 2 ^ i ≤ 2 ^ 6 := Nat.pow_le_pow_right (by decide) (by omega)
        have hp0 : 0 < 2 ^ i := Nat.two_pow_pos i
        have h1 : (0 : Int) < ((2 ^ i : Nat) : Int) := by omega
        have h2 : ((2 ^ i : Nat) : Int) < 1073741824 := by omega
        have z : decide ((a : Int) / ((2 ^ i : Nat) : Int) % 2 = (b : Int) / ((2 ^ i : Nat) : Int) % 2) = decide (a / 2 ^ i % 2 = b / 2 ^ i % 2) := by
          have e1 : (a : Int) / ((2 ^ i : Nat) : Int) % 2 = ((a / 2 ^ i % 2 : Nat) : Int) := by rw [Int.natCast_emod, Int.natCast_ediv]; rfl
          have e2 : (b : Int) / ((2 ^ i : Nat) : Int) % 2 = ((b / 2 ^ i % 2 : Nat) : Int) := by rw [Int.natCast_emod, Int.natCast_ediv]; rfl
          rw [e1, e2]
          exact decide_eq_decide.mpr (by omega)
        simp_arith [z, id])
    rw [List.map_id] at z
    exact z
  rw [run_eq tb__law_gap rfl (by decide), L__law_gap]
  simp_arith [c0, lN]
def nearerL (b : Bool) (x y : List Nat) : Bool := if b then decide (x.length < y.length) else decide (x.length < y.length) && x.all fun i => decide (i ∈ y)
theorem law_nearer_ok {b : Bool} {x y : List Nat} {d : D} (hx : x.length ≤ 1000) : runF tab.tb sub (k + 1) m "_law_nearer" [d, lN x, lN y, nrD b] st = .ok (.bl (nearerL b x y)) st := by
  have z : decide (((x.length : Nat) : Int) < ((y.length : Nat) : Int)) = decide (x.length < y.length) := decide_eq_decide.mpr (by omega)
  have c0 {a c e : Option D} : evE ⟨runF tab.tb sub k, sub⟩ L__law_nearer_c0 [a, some (.lst (x.map nD)), some (.lst (y.map nD)), c, e] st = .ok (.lst ((x.map fun i => decide (i ∈ y)).map .bl)) st := by
    refine comp_m nD (fun i => decide (i ∈ y)) .bl (src := ⟨[], x.map nD, true⟩) (by simp_arith) rfl rfl (by omega) (fun i hi => ?_)
    simp_arith
  have al : ((x.map fun i => decide (i ∈ y)).all id) = x.all fun i => decide (i ∈ y) := by rw [List.all_map]; rfl
  rw [run_eq tb__law_nearer rfl (by decide), L__law_nearer, lN_ap, lN_ap]
  cases b with
  | true => simp_arith [c_near, z, nearerL]
  | false =>
    by_cases q : x.length < y.length
    · simp_arith [c_near, z, decide_eq_true q, c0, al, nearerL]
    · simp_arith [c_near, z, decide_eq_false q, c0, al, nearerL]
/-! by tables -/
def gapX (n x : Nat) : List Nat := (List.range n).filter fun i => decide (x / 2 ^ i % 2 = 1)
theorem tb1b : ((List.range 5).all fun n => (List.range 16).all fun a => (List.range 16).all fun b => !decide (a < 2 ^ n) || (!decide (b < 2 ^ n) || decide (gapL n a b = gapX n (a ^^^ b)))) = true := by decide +kernel
theorem tb1 (n : Nat) (hn : n < 5) (a : Nat) (ha : a < 16) (b : Nat) (hb : b < 16) (h1 : a < 2 ^ n) (h2 : b < 2 ^ n) : gapL n a b = gapX n (a ^^^ b) := by
  have h := tb1b
  rw [List.all_eq_true] at h
  have h := h n (List.mem_range.mpr hn)
  rw [List.all_eq_true] at h
  have h := h a (List.mem_range.mpr ha)
  rw [List.all_eq_true] at h
  have h := h b (List.mem_range.mpr hb)
  rw [decide_eq_true h1, decide_eq_true h2] at h
  simpa using h
theorem tb2 : ∀ n < 5, ∀ x < 16, x < 2 ^ n → (gapX n x).length = pc 6 x := by decide +kernel
theorem tb3 : ∀ n < 5, ∀ x < 16, ∀ y < 16, x < 2 ^ n → y < 2 ^ n → nearerL false (gapX n x) (gapX n y) = psub x y := by decide +kernel
theorem lt16 {n x : Nat} (hn : n ≤ 4) (h : x < 2 ^ n) : x < 16 := Nat.lt_of_lt_of_le h (Nat.pow_le_pow_right (n := 2) (by decide) hn)
theorem nearer_eq {b : Bool} {n a c a2 c2 : Nat} (hn : n ≤ 4) (h1 : a < 2 ^ n) (h2 : c < 2 ^ n) (h3 : a2 < 2 ^ n) (h4 : c2 < 2 ^ n) : nearerL b (gapL n a c) (gapL n a2 c2) = if b then decide (apN a c < apN a2 c2) else psub (a ^^^ c) (a2 ^^^ c2) := by
  have x1 := Nat.xor_lt_two_pow h1 h2
  have x2 := Nat.xor_lt_two_pow h3 h4
  rw [tb1 n (by omega) a (lt16 hn h1) c (lt16 hn h2) h1 h2, tb1 n (by omega) a2 (lt16 hn h3) c2 (lt16 hn h4) h3 h4]
  cases b with
  | true =>
    show decide ((gapX n (a ^^^ c)).length < (gapX n (a2 ^^^ c2)).length) = _
    rw [tb2 n (by omega) _ (lt16 hn x1) x1, tb2 n (by omega) _ (lt16 hn x2) x2]; rfl
  | false => exact tb3 n (by omega) _ (lt16 hn x1) _ (lt16 hn x2) x1 x2
theorem less_if {b : Bool} {w a c : Nat} : lessF b w a c = if b then decide (apN w a < apN w c) else psub (w ^^^ a) (w ^^^ c) := rfl
theorem filt_at {p : Nat → Bool} (l : List Nat) : (((List.range l.length).filter fun i => p l[i]!).map fun i => l[i]!) = l.filter p := by
  have h : l.filter p = (((List.range l.length).map fun i => l[i]!)).filter p := by rw [get_range]
  rw [h, List.filter_map]; rfl
theorem any_congr' {α : Type} {p q : α → Bool} : ∀ {l : List α}, (∀ a ∈ l, p a = q a) → l.any p = l.any q
  | [], _ => rfl
  | a :: l, h => by rw [List.any_cons, List.any_cons, h a List.mem_cons_self, any_congr' fun b hb => h b (List.mem_cons_of_mem _ hb)]
theorem law_nearest_ok {b : Bool} {n w : Nat} {lot : List Nat} (hn : n ≤ 4) (hw : w < 2 ^ n) (hl : LotOk n lot) : runF tab.tb sub (k + 2) m "_law_nearest" [.int (n : Int), .int (w : Int), .tup (lot.map nD), nrD b] st = .ok (.tup ((nearF b w lot).map nD)) st := by
  have hle := hl.le (by omega)
  have hg : ∀ o, (gapL n w o).length ≤ n := gapL_len n w
  have c0 {a c d e : Option D} : evE ⟨runF tab.tb sub (k + 1), sub⟩ L__law_nearest_c0 [some (.int (n : Int)), some (.int (w : Int)), some (.tup (lot.map nD)), some (nrD b), a, c, d, e] st = .ok (.lst ((lot.map (gapL n w)).map lN)) st := by
    refine comp_m nD (gapL n w) lN (src := ⟨[], lot.map nD, false⟩) (by simp_arith) rfl rfl (by omega) (fun o ho => ?_)
    have e {st : Store} := law_gap_ok (sub := sub) (k := k) (m := false) (st := st) (n := n) (a := w) (b := o) (by omega)
    simp_arith [e]
  have c1 {i : Nat} (hi : i < lot.length) {c e : Option D} : evE ⟨runF tab.tb sub (k + 1), sub⟩ L__law_nearest_c1 [some (.int (n : Int)), some (.int (w : Int)), some (.tup (lot.map nD)), some (nrD b), some (.lst ((lot.map (gapL n w)).map lN)), c, some (.int (i : Int)), e] st = .ok (.lst (((lot.map (gapL n w)).map fun g => nearerL b g (gapL n w lot[i]!)).map .bl)) st := by
    refine comp_m lN (fun g => nearerL b g (gapL n w lot[i]!)) .bl (src := ⟨[], (lot.map (gapL n w)).map lN, true⟩) (by simp_arith) rfl rfl (by rw [List.length_map]; omega) (fun g hgm => ?_)
    obtain ⟨o, _, rfl⟩ := List.mem_map.mp hgm
    have h1 := hg o
    have e {st : Store} {d : D} := law_nearer_ok (sub := sub) (k := k) (m := false) (st := st) (b := b) (x := gapL n w o) (y := gapL n w lot[i]!) (d := d) (by omega)
    have ix {st : Store} : getIx (.lst ((lot.map (gapL n w)).map lN)) (.int (i : Int)) st = .ok (lN (gapL n w lot[i]!)) st := by
      rw [ix_lM (by omega) (by rw [List.length_map]; omega), Int.toNat_natCast]
      have : (lot.map (gapL n w))[i]! = gapL n w lot[i]! := by
        rw [getElem!_pos (lot.map (gapL n w)) i (by simpa using hi), getElem!_pos lot i hi, List.getElem_map]
      rw [this]
    simp_arith [ix, e]
  have c2 {c d e : Option D} : evE ⟨runF tab.tb sub (k + 1), sub⟩ L__law_nearest_c2 [some (.int (n : Int)), some (.int (w : Int)), some (.tup (lot.map nD)), some (nrD b), some (.lst ((lot.map (gapL n w)).map lN)), c, d, e] st = .ok (.lst ((nearF b w lot).map nD)) st := by
    have r1 {st : Store} : rangeSrc [.int ((lot.length : Nat) : Int)] st = .ok ⟨[], (List.range lot.length).map nD, true⟩ st := rng1 _ (by omega)
    have z := comp_f (F := ⟨runF tab.tb sub (k + 1), sub⟩) (ρ := [some (.int (n : Int)), some (.int (w : Int)), some (.tup (lot.map nD)), some (nrD b), some (.lst ((lot.map (gapL n w)).map lN)), c, d, e]) (st := st) (elt := .ix (.v 2) (.v 6)) (vs := [6]) (tg := .nm 6) (it := .rng (.cons (.bi false .len (.cons (.v 2) .nil)) .nil)) (c := (.cons (.not (.bi false .any (.cons L__law_nearest_c1 .nil))) .nil))
      (l := List.range lot.length) nD (fun i => !((lot.map (gapL n w)).any fun g => nearerL b g (gapL n w lot[i]!))) (fun i => lot[i]!) nD (src := ⟨[], (List.range lot.length).map nD, true⟩) (by simp_arith [r1]) rfl rfl (by simp; omega) (fun i hi => by
        have hi := List.mem_range.mp hi
        have an : (((lot.map (gapL n w)).map fun g => nearerL b g (gapL n w lot[i]!)).any id) = ((lot.map (gapL n w)).any fun g => nearerL b g (gapL n w lot[i]!)) := by rw [List.any_map]; rfl
        simp_arith [c1 hi, an])
    rw [filt_at (p := fun o => !((lot.map (gapL n w)).any fun g => nearerL b g (gapL n w o)))] at z
    rw [L__law_nearest_c2, z]
    congr 3
    unfold nearF
    refine List.filter_congr fun o ho => ?_
    congr 1
    rw [List.any_map]
    refine any_congr' fun o2 ho2 => ?_
    show nearerL b (gapL n w o2) (gapL n w o) = _
    rw [nearer_eq hn hw (hl.2 o2 ho2) hw (hl.2 o ho), less_if]
  have hf := nearF_len b w lot
  rw [run_eq tb__law_nearest rfl (by decide), L__law_nearest]
  simp_arith [c0, c2]
end K66
namespace K66
open PySem PI
variable {sub : Str → Str → Option Bool} {k : Nat} {m : Bool} {st : Store}
theorem lot16 {n : Nat} {l : List Nat} (hn : n ≤ 4) (h : LotOk n l) : l.length ≤ 16 := by
  have h1 := asc_len (a := 0) (b := 2 ^ n) h.1 (fun w hw => ⟨Nat.zero_le _, h.2 w hw⟩)
  have hp : 2 ^ n ≤ 16 := Nat.pow_le_pow_right (n := 2) (by decide) hn
  omega
theorem flat_len {f : Nat → List Nat} {B : Nat} (hf : ∀ x, (f x).length ≤ B) : ∀ l : List Nat, (l.flatMap f).length ≤ l.length * B
  | [] => by simp
  | a :: l => by
    have := flat_len hf l
    have := hf a
    rw [List.flatMap_cons, List.length_append, List.length_cons, Nat.add_mul]
    omega
theorem movedL_len {b : Bool} {held lot : List Nat} (hl : lot.length ≤ 16) : (movedL b held lot).length ≤ held.length * 16 := flat_len (fun x => Nat.le_trans (nearF_len b x lot) hl) held
theorem law_moved_ok {b : Bool} {n : Nat} {held lot : List Nat} (hn : n ≤ 4) (hh : ∀ w ∈ held, w < 2 ^ n) (hh2 : held.length ≤ 16) (hl : LotOk n lot) : runF tab.tb sub (k + 3) m "_law_moved" [.int (n : Int), .tup (held.map nD), .tup (lot.map nD), nrD b] st = .ok (.tup ((movedF b held lot).map nD)) st := by
  have hll := lot16 hn hl
  obtain ⟨ρ2, s2, q1, q2, q3, x, q4⟩ := forL_inv (e := nD) (tg := .nm 5) (body := evSs ⟨runF tab.tb sub (k + 2), sub⟩ L__law_moved_b0) (src := ⟨[], held.map nD, false⟩)
    (fun pre post ρ s => s = st ∧ (pre ++ post = held) ∧ ∃ x, ρ = [some (.int (n : Int)), some (.tup (held.map nD)), some (.tup (lot.map nD)), some (nrD b), some (.lst ((movedL b pre lot).map nD)), x])
    held [] [some (.int (n : Int)), some (.tup (held.map nD)), some (.tup (lot.map nD)), some (nrD b), some (.lst []), none] st ⟨rfl, rfl, none, rfl⟩
    (fun pre w post ρ s hI => by
      obtain ⟨rfl, hp, x, rfl⟩ := hI
      have hw : w ∈ held := by rw [← hp]; simp
      have hpl : pre.length ≤ held.length := by rw [← hp, List.length_append]; omega
      have h1 := movedL_len (b := b) (held := pre) (lot := lot) hll
      have h2 := nearF_len b w lot
      have e {m : Bool} {st : Store} := law_nearest_ok (sub := sub) (k := k) (m := m) (st := st) (b := b) (w := w) (lot := lot) hn (hh w hw) hl
      refine ⟨rfl, _, by simp_arith; rfl, _, _, ?_, rfl, by rw [List.append_assoc]; exact hp, some (nD w), rfl⟩
      have eq : movedL b (pre ++ [w]) lot = movedL b pre lot ++ nearF b w lot := by
        unfold movedL; rw [List.flatMap_append, List.flatMap_singleton]
      rw [L__law_moved_b0, eq, List.map_append]
      simp_arith [e])
    (fun _ _ _ _ => rfl)
  rw [List.nil_append] at q4
  subst q4; subst q2
  have f1 : evS ⟨runF tab.tb sub (k + 2), sub⟩ L__law_moved_f1 [some (.int (n : Int)), some (.tup (held.map nD)), some (.tup (lot.map nD)), some (nrD b), some (.lst []), none] s2 = .ok .nx [some (.int (n : Int)), some (.tup (held.map nD)), some (.tup (lot.map nD)), some (nrD b), some (.lst ((movedL b held lot).map nD)), x] s2 := by
    rw [L__law_moved_f1, s_for]
    simp_arith [q1]
  have h1 := movedL_len (b := b) (held := held) (lot := lot) hll
  have hb : (once (movedL b held lot)).length ≤ 16 := once_below fun x hx => lt16 hn (hl.2 x (movedL_mem hx))
  have hb2 := len_sortN (once (movedL b held lot))
  have z1 {m : Bool} {st : Store} := b_sortsetL (m := m) (st := st) (l := movedL b held lot) (by omega) (by omega)
  rw [run_eq tb__law_moved rfl (by decide), L__law_moved]
  simp_arith [f1, z1, movedF]
/-! both -/
def gapP (n : Nat) (p : Nat × Nat) : List Nat := gapL n p.1 p.2
theorem bot_eq {b : Bool} {n : Nat} {ps : List (Nat × Nat)} {p : Nat × Nat} (hn : n ≤ 4) (hp : ∀ q ∈ ps, q.1 < 2 ^ n ∧ q.2 < 2 ^ n) (hm : p ∈ ps) : (!((ps.map (gapP n)).any fun g => nearerL b g (gapP n p))) = botP b ps p := by
  rw [List.any_map]
  have e : (ps.any ((fun g => nearerL b g (gapP n p)) ∘ gapP n)) = ps.any fun q => if b then decide (apN q.1 q.2 < apN p.1 p.2) else psub (q.1 ^^^ q.2) (p.1 ^^^ p.2) := any_congr' fun q hq => by
    show nearerL b (gapL n q.1 q.2) (gapL n p.1 p.2) = _
    exact nearer_eq hn (hp q hq).1 (hp q hq).2 (hp p hm).1 (hp p hm).2
  rw [e]
  cases b with
  | false => rfl
  | true =>
    show (!(ps.any fun q => decide (apN q.1 q.2 < apN p.1 p.2))) = decide (apP p = leastP ps)
    obtain ⟨lo, hlo⟩ : ∃ lo, minI (ps.map apP) = some lo := by
      cases h : ps.map apP with
      | nil => rw [List.map_eq_nil_iff] at h; rw [h] at hm; cases hm
      | cons a l => exact ⟨_, rfl⟩
    obtain ⟨h1, h2⟩ := minI_mem hlo
    have hl : leastP ps = lo := by unfold leastP; rw [hlo]; rfl
    rw [hl]
    have h3 := h2 (apP p) (List.mem_map_of_mem hm)
    obtain ⟨q0, hq0, hq1⟩ := List.mem_map.mp h1
    by_cases q : apP p = lo
    · rw [decide_eq_true q]
      have : (ps.any fun q => decide (apN q.1 q.2 < apN p.1 p.2)) = false := by
        rw [List.any_eq_false]
        intro r hr
        have h4 := h2 (apP r) (List.mem_map_of_mem hr)
        have h5 : apP p = ((apN p.1 p.2 : Nat) : Int) := rfl
        have h6 : apP r = ((apN r.1 r.2 : Nat) : Int) := rfl
        simp only [decide_eq_true_eq]
        omega
      rw [this]; rfl
    · rw [decide_eq_false q]
      have : (ps.any fun q => decide (apN q.1 q.2 < apN p.1 p.2)) = true := by
        rw [List.any_eq_true]
        refine ⟨q0, hq0, ?_⟩
        have h5 : apP p = ((apN p.1 p.2 : Nat) : Int) := rfl
        have h6 : apP q0 = ((apN q0.1 q0.2 : Nat) : Int) := rfl
        exact decide_eq_true (by omega)
      rw [this]; rfl
theorem filt_at2 {α : Type} [Inhabited α] {p : α → Bool} (l : List α) : (((List.range l.length).filter fun i => p l[i]!).map fun i => l[i]!) = l.filter p := by
  have h : l.filter p = (((List.range l.length).map fun i => l[i]!)).filter p := by rw [get_range]
  rw [h, List.filter_map]; rfl
theorem law_both_ok {b : Bool} {n one other : Nat} {lot : List Nat} (hn : n ≤ 4) (h1 : one < 2 ^ n) (h2 : other < 2 ^ n) (hl : LotOk n lot) : runF tab.tb sub (k + 3) m "_law_both" [.int (n : Int), .int (one : Int), .int (other : Int), .tup (lot.map nD), nrD b] st = .ok (.tup ((twoF b one other lot).map nD)) st := by
  have hll := lot16 hn hl
  have hpl := pairs_len (b := b) (one := one) (other := other) (lot := lot)
  have hps : ∀ p ∈ pairsL b one other lot, p.1 < 2 ^ n ∧ p.2 < 2 ^ n := fun p hp => by
    obtain ⟨g1, g2⟩ := pairs_mem hp
    exact ⟨by rcases g1 with g1 | g1 <;> rw [g1] <;> assumption, hl.2 _ g2⟩
  have sl (w : Nat) := nearF_len b w lot
  have e1 {m : Bool} {st : Store} := law_nearest_ok (sub := sub) (k := k) (m := m) (st := st) (b := b) (w := one) (lot := lot) hn h1 hl
  have e2 {m : Bool} {st : Store} := law_nearest_ok (sub := sub) (k := k) (m := m) (st := st) (b := b) (w := other) (lot := lot) hn h2 hl
  have c0 {x5 x6 x7 x8 x9 x10 : Option D} : evE ⟨runF tab.tb sub (k + 2), sub⟩ L__law_both_c0 [some (.int (n : Int)), some (.int (one : Int)), some (.int (other : Int)), some (.tup (lot.map nD)), some (nrD b), x5, x6, x7, x8, x9, x10] st = .ok (.lst (((nearF b one lot).map fun w => (one, w)).map pD)) st := by
    have := sl one
    refine comp_m nD (fun w => (one, w)) pD (src := ⟨[], (nearF b one lot).map nD, false⟩) (by simp_arith [e1]) rfl rfl (by omega) (fun w hw => ?_)
    simp_arith [pD_ap]
  have c1 {x5 x6 x7 x8 x9 x10 : Option D} : evE ⟨runF tab.tb sub (k + 2), sub⟩ L__law_both_c1 [some (.int (n : Int)), some (.int (one : Int)), some (.int (other : Int)), some (.tup (lot.map nD)), some (nrD b), x5, x6, x7, x8, x9, x10] st = .ok (.lst (((nearF b other lot).map fun w => (other, w)).map pD)) st := by
    have := sl other
    refine comp_m nD (fun w => (other, w)) pD (src := ⟨[], (nearF b other lot).map nD, false⟩) (by simp_arith [e2]) rfl rfl (by omega) (fun w hw => ?_)
    simp_arith [pD_ap]
  have pe : ((nearF b one lot).map fun w => (one, w)).map pD ++ ((nearF b other lot).map fun w => (other, w)).map pD = (pairsL b one other lot).map pD := by
    unfold pairsL
    rw [List.flatMap_cons, List.flatMap_cons, List.flatMap_nil, List.append_nil, List.map_append]
  have hgl : ∀ p, (gapP n p).length ≤ n := fun p => gapL_len n p.1 p.2
  have c2 {x6 x7 x8 x9 x10 : Option D} : evE ⟨runF tab.tb sub (k + 2), sub⟩ L__law_both_c2 [some (.int (n : Int)), some (.int (one : Int)), some (.int (other : Int)), some (.tup (lot.map nD)), some (nrD b), some (.lst ((pairsL b one other lot).map pD)), x6, x7, x8, x9, x10] st = .ok (.lst (((pairsL b one other lot).map (gapP n)).map lN)) st := by
    refine comp_m pD (gapP n) lN (src := ⟨[], (pairsL b one other lot).map pD, true⟩) (by simp_arith) rfl rfl (by omega) (fun p hp => ?_)
    have e {st : Store} := law_gap_ok (sub := sub) (k := k + 1) (m := false) (st := st) (n := n) (a := p.1) (b := p.2) (by omega)
    simp_arith [pD_ap, e, gapP]
  have c3 {i : Nat} (hi : i < (pairsL b one other lot).length) {x7 x8 x10 : Option D} : evE ⟨runF tab.tb sub (k + 2), sub⟩ L__law_both_c3 [some (.int (n : Int)), some (.int (one : Int)), some (.int (other : Int)), some (.tup (lot.map nD)), some (nrD b), some (.lst ((pairsL b one other lot).map pD)), some (.lst (((pairsL b one other lot).map (gapP n)).map lN)), x7, x8, some (.int (i : Int)), x10] st = .ok (.lst ((((pairsL b one other lot).map (gapP n)).map fun g => nearerL b g (gapP n (pairsL b one other lot)[i]!)).map .bl)) st := by
    refine comp_m lN (fun g => nearerL b g (gapP n (pairsL b one other lot)[i]!)) .bl (src := ⟨[], ((pairsL b one other lot).map (gapP n)).map lN, true⟩) (by simp_arith) rfl rfl (by rw [List.length_map]; omega) (fun g hgm => ?_)
    obtain ⟨o, _, rfl⟩ := List.mem_map.mp hgm
    have h1 := hgl o
    have e {st : Store} {d : D} := law_nearer_ok (sub := sub) (k := k + 1) (m := false) (st := st) (b := b) (x := gapP n o) (y := gapP n (pairsL b one other lot)[i]!) (d := d) (by omega)
    have ix {st : Store} : getIx (.lst (((pairsL b one other lot).map (gapP n)).map lN)) (.int (i : Int)) st = .ok (lN (gapP n (pairsL b one other lot)[i]!)) st := by
      rw [ix_lM (by omega) (by rw [List.length_map]; omega), Int.toNat_natCast]
      have : ((pairsL b one other lot).map (gapP n))[i]! = gapP n (pairsL b one other lot)[i]! := by
        rw [getElem!_pos ((pairsL b one other lot).map (gapP n)) i (by simpa using hi), getElem!_pos (pairsL b one other lot) i hi, List.getElem_map]
      rw [this]
    simp_arith [ix, e]
  have c4 {x7 x8 x9 x10 : Option D} : evE ⟨runF tab.tb sub (k + 2), sub⟩ L__law_both_c4 [some (.int (n : Int)), some (.int (one : Int)), some (.int (other : Int)), some (.tup (lot.map nD)), some (nrD b), some (.lst ((pairsL b one other lot).map pD)), some (.lst (((pairsL b one other lot).map (gapP n)).map lN)), x7, x8, x9, x10] st = .ok (.lst ((((pairsL b one other lot).filter (botP b (pairsL b one other lot))).map (·.2)).map nD)) st := by
    have r1 {st : Store} : rangeSrc [.int (((pairsL b one other lot).length : Nat) : Int)] st = .ok ⟨[], (List.range (pairsL b one other lot).length).map nD, true⟩ st := rng1 _ (by omega)
    have z := comp_f (F := ⟨runF tab.tb sub (k + 2), sub⟩) (ρ := [some (.int (n : Int)), some (.int (one : Int)), some (.int (other : Int)), some (.tup (lot.map nD)), some (nrD b), some (.lst ((pairsL b one other lot).map pD)), some (.lst (((pairsL b one other lot).map (gapP n)).map lN)), x7, x8, x9, x10]) (st := st) (elt := .ix (.ix (.v 5) (.v 9)) (.c (.int 1))) (vs := [9]) (tg := .nm 9) (it := .rng (.cons (.bi false .len (.cons (.v 5) .nil)) .nil)) (c := (.cons (.not (.bi false .any (.cons L__law_both_c3 .nil))) .nil))
      (l := List.range (pairsL b one other lot).length) nD (fun i => !(((pairsL b one other lot).map (gapP n)).any fun g => nearerL b g (gapP n (pairsL b one other lot)[i]!))) (fun i => ((pairsL b one other lot)[i]!).2) nD (src := ⟨[], (List.range (pairsL b one other lot).length).map nD, true⟩) (by simp_arith [r1]) rfl rfl (by simp; omega) (fun i hi => by
        have hi := List.mem_range.mp hi
        have an : ((((pairsL b one other lot).map (gapP n)).map fun g => nearerL b g (gapP n (pairsL b one other lot)[i]!)).any id) = (((pairsL b one other lot).map (gapP n)).any fun g => nearerL b g (gapP n (pairsL b one other lot)[i]!)) := by rw [List.any_map]; rfl
        simp_arith [c3 hi, an, pD_ap])
    have fe := filt_at2 (p := fun p => !(((pairsL b one other lot).map (gapP n)).any fun g => nearerL b g (gapP n p))) (pairsL b one other lot)
    have fm : (((List.range (pairsL b one other lot).length).filter fun i => !(((pairsL b one other lot).map (gapP n)).any fun g => nearerL b g (gapP n (pairsL b one other lot)[i]!))).map fun i => ((pairsL b one other lot)[i]!).2) = ((pairsL b one other lot).filter (botP b (pairsL b one other lot))).map (·.2) := by
      have fe2 := congrArg (List.map (fun p : Nat × Nat => p.2)) fe
      rw [List.map_map] at fe2
      refine Eq.trans fe2 ?_
      congr 1
      exact List.filter_congr fun p hp => bot_eq hn hps hp
    rw [fm] at z
    rw [L__law_both_c4]; exact z
  have hf : ((((pairsL b one other lot).filter (botP b (pairsL b one other lot))).map (·.2))).length ≤ (pairsL b one other lot).length := by rw [List.length_map]; exact List.length_filter_le _ _
  have hb : (once (((pairsL b one other lot).filter (botP b (pairsL b one other lot))).map (·.2))).length ≤ 16 := once_below fun x hx => by
    obtain ⟨q, hq, rfl⟩ := List.mem_map.mp hx
    exact lt16 hn (hps q (List.mem_filter.mp hq).1).2
  have hb2 := len_sortN (once (((pairsL b one other lot).filter (botP b (pairsL b one other lot))).map (·.2)))
  have z1 {m : Bool} {st : Store} := b_sortsetL (m := m) (st := st) (l := ((pairsL b one other lot).filter (botP b (pairsL b one other lot))).map (·.2)) (by omega) (by omega)
  rw [run_eq tb__law_both rfl (by decide), L__law_both]
  have s1 := sl one
  have s2 := sl other
  simp_arith [c0, c1, pe, c2, c4, z1, twoF]
theorem law_first_ok {b : Bool} {n : Nat} {lot : List Nat} (hn : n ≤ 4) (hl : LotOk n lot) : runF tab.tb sub (k + 4) m "_law_first" [.int (n : Int), .tup (lot.map nD), nrD b] st = .ok (oP (findU (unlF b lot) (2 ^ n))) st := by
  have hp : 2 ^ n ≤ 16 := Nat.pow_le_pow_right (n := 2) (by decide) hn
  have sh {st : Store} : op2 false .shl (.int 1) (.int (n : Int)) st = .ok (.int ((2 ^ n : Nat) : Int)) st := by
    rw [op_shl1 _ (by omega)]
  have inner {one : Nat} (ho : one < 2 ^ n) {x4 : Option D} : ∃ y4, evS ⟨runF tab.tb sub (k + 3), sub⟩ L__law_first_f1 [some (.int (n : Int)), some (.tup (lot.map nD)), some (nrD b), some (.int (one : Int)), x4] st = .ok ((((List.range' (one + 1) (2 ^ n - (one + 1))).findSome? fun other => if unlF b lot one other = true then some (one, other) else none).map pD).elim .nx .rt) [some (.int (n : Int)), some (.tup (lot.map nD)), some (nrD b), some (.int (one : Int)), y4] st := by
    obtain ⟨ρ2, ⟨y4, q1⟩, q2⟩ := forL_find (e := nD) (tg := .nm 4) (body := evSs ⟨runF tab.tb sub (k + 3), sub⟩ L__law_first_b0) (src := ⟨[], (List.range' (one + 1) (2 ^ n - (one + 1))).map nD, true⟩) (st := st) rfl (fun other => (if unlF b lot one other = true then some (one, other) else none).map pD)
      (fun ρ => ∃ y4, ρ = [some (.int (n : Int)), some (.tup (lot.map nD)), some (nrD b), some (.int (one : Int)), y4]) (List.range' (one + 1) (2 ^ n - (one + 1))) [some (.int (n : Int)), some (.tup (lot.map nD)), some (nrD b), some (.int (one : Int)), x4] ⟨x4, rfl⟩
      (fun other ho2 ρ hI => by
        obtain ⟨y4, rfl⟩ := hI
        rw [List.mem_range'_1] at ho2
        have ho3 : other < 2 ^ n := by omega
        have m1 {m : Bool} {st : Store} := law_moved_ok (sub := sub) (k := k) (m := m) (st := st) (b := b) (held := [one, other]) (lot := lot) hn (fun x hx => by
          simp only [List.mem_cons, List.not_mem_nil, or_false] at hx
          rcases hx with rfl | rfl <;> assumption) (by show 2 ≤ 16; decide) hl
        simp only [List.map_cons, List.map_nil, nD_ap] at m1
        have m2 {m : Bool} {st : Store} := law_both_ok (sub := sub) (k := k) (m := m) (st := st) (b := b) (one := one) (other := other) (lot := lot) hn ho ho3 hl
        have ne {st : Store} : cmpD .ne (.tup ((movedF b [one, other] lot).map nD)) (.tup ((twoF b one other lot).map nD)) st = .ok (unlF b lot one other) st := by
          rw [c_ne_tt _ _ (fitL_nD _ _) (fitL_nD _ _), eqvL_nD]; rfl
        refine ⟨_, by simp_arith; rfl, _, ⟨some (.int (other : Int)), rfl⟩, ?_⟩
        rw [L__law_first_b0]
        cases q : unlF b lot one other
        · simp_arith [m1, m2, ne, q, Option.map_none, Option.elim_none]
        · simp_arith [m1, m2, ne, q, Option.map_some, Option.elim_some, pD_ap])
    refine ⟨y4, ?_⟩
    subst q1
    rw [some_map] at q2
    have r2 {st : Store} : rangeSrc [.int ((one : Int) + 1), .int ((2 ^ n : Nat) : Int)] st = .ok ⟨[], (List.range' (one + 1) (2 ^ n - (one + 1))).map nD, true⟩ st := by
      have := rng2 (st := st) (one + 1) (2 ^ n) (by omega) (by omega)
      exact this
    rw [L__law_first_f1, s_for]
    simp_arith [r2, q2]
  obtain ⟨ρ2, ⟨y4, y5, q1⟩, q2⟩ := forL_find (e := nD) (tg := .nm 3) (body := evSs ⟨runF tab.tb sub (k + 3), sub⟩ L__law_first_b2) (src := ⟨[], (List.range (2 ^ n)).map nD, true⟩) (st := st) rfl (fun one => (((List.range' (one + 1) (2 ^ n - (one + 1))).findSome? fun other => if unlF b lot one other = true then some (one, other) else none).map pD))
    (fun ρ => ∃ y4 y5, ρ = [some (.int (n : Int)), some (.tup (lot.map nD)), some (nrD b), y4, y5]) (List.range (2 ^ n)) [some (.int (n : Int)), some (.tup (lot.map nD)), some (nrD b), none, none] ⟨none, none, rfl⟩
    (fun one ho ρ hI => by
      obtain ⟨y4, y5, rfl⟩ := hI
      obtain ⟨z5, q⟩ := inner (List.mem_range.mp ho) (x4 := y5)
      refine ⟨_, by simp_arith; rfl, _, ⟨some (.int (one : Int)), z5, rfl⟩, ?_⟩
      rw [L__law_first_b2]
      cases hq : ((List.range' (one + 1) (2 ^ n - (one + 1))).findSome? fun other => if unlF b lot one other = true then some (one, other) else none).map pD
      · rw [hq] at q
        simp_arith [q, Option.elim_none]
      · rw [hq] at q
        simp_arith [q, Option.elim_some])
  subst q1
  rw [some_map] at q2
  have r2 {st : Store} : rangeSrc [.int ((2 ^ n : Nat) : Int)] st = .ok ⟨[], (List.range (2 ^ n)).map nD, true⟩ st := rng1 (2 ^ n) (by omega)
  have f3 : evS ⟨runF tab.tb sub (k + 3), sub⟩ L__law_first_f3 [some (.int (n : Int)), some (.tup (lot.map nD)), some (nrD b), none, none] st = .ok (((findU (unlF b lot) (2 ^ n)).map pD).elim .nx .rt) [some (.int (n : Int)), some (.tup (lot.map nD)), some (nrD b), y4, y5] st := by
    rw [L__law_first_f3, s_for]
    simp_arith [r2, sh]
    exact q2
  rw [run_eq tb__law_first rfl (by decide), L__law_first]
  cases hq : findU (unlF b lot) (2 ^ n) with
  | none =>
    rw [hq, Option.map_none, Option.elim_none] at f3
    simp_arith [f3, oP]
  | some p =>
    rw [hq, Option.map_some, Option.elim_some, pD_ap] at f3
    simp_arith [f3, oP, pD_ap]
end K66
namespace K66
open PySem PI
/-! ### keeping up, plainly -/
def mu (b : Bool) (w a : Nat) : Nat := if b then apN w a else w ^^^ a
theorem less_mu {b : Bool} {w a c : Nat} (h : lessF b w a c = true) : mu b w a < mu b w c := by
  rw [less_if] at h
  unfold mu
  cases b with
  | true => exact of_decide_eq_true h
  | false =>
    have h : psub (w ^^^ a) (w ^^^ c) = true := h
    unfold psub at h
    rw [Bool.and_eq_true, decide_eq_true_eq, decide_eq_true_eq] at h
    have h1 : (w ^^^ a) &&& (w ^^^ c) ≤ w ^^^ c := Nat.and_le_right
    have h2 : (w ^^^ a) &&& (w ^^^ c) ≤ w ^^^ a := Nat.and_le_left
    show w ^^^ a < w ^^^ c
    omega
theorem min_mem (f : Nat → Nat) : ∀ {l : List Nat}, l ≠ [] → ∃ x ∈ l, ∀ y ∈ l, f x ≤ f y
  | [], h => (h rfl).elim
  | [a], _ => ⟨a, List.mem_cons_self, fun y hy => by rw [List.mem_singleton] at hy; rw [hy]; exact Nat.le_refl _⟩
  | a :: b :: r, _ => by
    obtain ⟨x, h1, h2⟩ := min_mem f (l := b :: r) (by simp)
    by_cases q : f a ≤ f x
    · refine ⟨a, List.mem_cons_self, fun y hy => ?_⟩
      rcases List.mem_cons.mp hy with rfl | hy
      · exact Nat.le_refl _
      · exact Nat.le_trans q (h2 y hy)
    · refine ⟨x, List.mem_cons_of_mem _ h1, fun y hy => ?_⟩
      rcases List.mem_cons.mp hy with rfl | hy
      · omega
      · exact h2 y hy
theorem near_ne {b : Bool} {w : Nat} {lot : List Nat} (h : lot ≠ []) : ∃ x, x ∈ nearF b w lot := by
  obtain ⟨x, h1, h2⟩ := min_mem (mu b w) h
  refine ⟨x, List.mem_filter.mpr ⟨h1, ?_⟩⟩
  have : (lot.any fun other => lessF b w other x) = false := by
    rw [List.any_eq_false]
    intro y hy hl
    have := less_mu hl
    have := h2 y hy
    omega
  rw [this]; rfl
theorem set_at {os : List (Option Int)} {v u : Nat} {o : Option Int} (hv : v < os.length) (hu : u < os.length) : (os.set v o)[u]! = if u = v then o else os[u]! := by
  rw [getElem!_pos (os.set v o) u (by simpa using hu), List.getElem_set]
  by_cases q : v = u
  · rw [if_pos q, if_pos q.symm]
  · rw [if_neg q, if_neg (fun z => q z.symm), getElem!_pos os u hu]
theorem les_some {x y : Option Int} {z : Int} (h : lesO x y = some z) : x = some z ∨ y = some z := by
  cases x with
  | none => exact .inr h
  | some a => cases y with
    | none => exact .inl h
    | some b =>
      have h : (if b < a then b else a) = z := Option.some.inj h
      split at h
      · exact .inr (by rw [h])
      · exact .inl (by rw [h])
theorem les_le {x y : Option Int} : (∀ z, x = some z → ∃ u, lesO x y = some u ∧ u ≤ z) ∧ ∀ z, y = some z → ∃ u, lesO x y = some u ∧ u ≤ z := by
  cases x with
  | none => exact ⟨fun z h => (by cases h), fun z h => ⟨z, h, Int.le_refl _⟩⟩
  | some a => cases y with
    | none => exact ⟨fun z h => ⟨z, h, Int.le_refl _⟩, fun z h => (by cases h)⟩
    | some b =>
      refine ⟨fun z h => ⟨_, rfl, ?_⟩, fun z h => ⟨_, rfl, ?_⟩⟩
      · cases h; split <;> omega
      · cases h; split <;> omega
/-- after the pairs -/
structure InvK (N : Nat) (src : List (Option Int)) (P : Nat → Nat → Prop) (os : List (Option Int)) : Prop where
  len : os.length = N
  a : ∀ v x, v < N → os[v]! = some x → ∃ w, P w v ∧ src[w]! = some x
  b : ∀ w v x, v < N → P w v → src[w]! = some x → ∃ y, os[v]! = some y ∧ y ≤ x
theorem InvK.step {N : Nat} {src os : List (Option Int)} {P : Nat → Nat → Prop} (h : InvK N src P os) {w v : Nat} (hv : v < N) : InvK N src (fun w' v' => P w' v' ∨ (w' = w ∧ v' = v)) (putL src[w]! os v) := by
  refine ⟨by rw [putL_len]; exact h.len, fun u x hu e => ?_, fun w' u x hu hp e => ?_⟩
  · unfold putL at e
    rw [set_at (by rw [h.len]; exact hv) (by rw [h.len]; exact hu)] at e
    by_cases q : u = v
    · subst q
      rw [if_pos rfl] at e
      rcases les_some e with e | e
      · obtain ⟨w', h1, h2⟩ := h.a u x hu e
        exact ⟨w', .inl h1, h2⟩
      · exact ⟨w, .inr ⟨rfl, rfl⟩, e⟩
    · rw [if_neg q] at e
      obtain ⟨w', h1, h2⟩ := h.a u x hu e
      exact ⟨w', .inl h1, h2⟩
  · unfold putL
    rw [set_at (by rw [h.len]; exact hv) (by rw [h.len]; exact hu)]
    by_cases q : u = v
    · subst q
      rw [if_pos rfl]
      rcases hp with hp | ⟨rfl, _⟩
      · obtain ⟨y, h1, h2⟩ := h.b w' u x hu hp e
        obtain ⟨z, h3, h4⟩ := (les_le (x := os[u]!) (y := src[w]!)).1 y h1
        exact ⟨z, h3, by omega⟩
      · exact les_le.2 x e
    · rw [if_neg q]
      rcases hp with hp | ⟨_, rfl⟩
      · exact h.b w' u x hu hp e
      · exact (q rfl).elim
theorem InvK.congr {N : Nat} {src os : List (Option Int)} {P Q : Nat → Nat → Prop} (h : InvK N src P os) (e : ∀ w v, P w v ↔ Q w v) : InvK N src Q os := by
  have : P = Q := by funext w v; exact propext (e w v)
  exact this ▸ h
theorem InvK.steps {N w : Nat} {src : List (Option Int)} : ∀ {l : List Nat} {os : List (Option Int)} {P : Nat → Nat → Prop}, InvK N src P os → (∀ v ∈ l, v < N) → InvK N src (fun w' v' => P w' v' ∨ (w' = w ∧ v' ∈ l)) (l.foldl (putL src[w]!) os)
  | [], os, P, h, _ => h.congr fun w' v' => ⟨.inl, fun z => z.elim id fun z => by cases z.2⟩
  | v :: l, os, P, h, hl => by
    rw [List.foldl_cons]
    refine (InvK.steps (h.step (w := w) (hl v List.mem_cons_self)) fun u hu => hl u (List.mem_cons_of_mem _ hu)).congr fun w' v' => ?_
    rw [List.mem_cons]
    grind
theorem InvK.all {N : Nat} {src : List (Option Int)} {b : Bool} {lot : List Nat} (hlot : ∀ v ∈ lot, v < N) : ∀ {l : List Nat} {os : List (Option Int)} {P : Nat → Nat → Prop}, InvK N src P os → InvK N src (fun w' v' => P w' v' ∨ (w' ∈ l ∧ v' ∈ nearF b w' lot)) (l.foldl (stepK b lot src) os)
  | [], os, P, h => h.congr fun w' v' => ⟨.inl, fun z => z.elim id fun z => by cases z.1⟩
  | w :: l, os, P, h => by
    rw [List.foldl_cons]
    refine (InvK.all hlot (h.steps (w := w) (l := nearF b w lot) fun v hv => hlot v (nearF_mem hv))).congr fun w' v' => ?_
    rw [List.mem_cons]
    grind
theorem raw_inv {src : List (Option Int)} {b : Bool} {lot : List Nat} (hlot : ∀ v ∈ lot, v < src.length) : InvK src.length src (fun w v => w < src.length ∧ v ∈ nearF b w lot) (rawK b lot src) := by
  have h0 : InvK src.length src (fun _ _ => False) (List.replicate src.length none) := ⟨List.length_replicate, fun v x hv e => (by
    rw [getElem!_pos (List.replicate src.length none) v (by simpa using hv), List.getElem_replicate] at e; cases e), fun _ _ _ _ h => h.elim⟩
  exact (InvK.all (b := b) hlot (l := List.range src.length) h0).congr fun w v => by rw [List.mem_range]; simp
theorem get_mem {os : List (Option Int)} {v : Nat} {x : Int} (hv : v < os.length) (h : os[v]! = some x) : some x ∈ os := by
  rw [getElem!_pos os v hv] at h; rw [← h]; exact List.getElem_mem hv
theorem mem_get {os : List (Option Int)} {x : Int} (h : some x ∈ os) : ∃ v < os.length, os[v]! = some x := by
  obtain ⟨v, hv, e⟩ := List.mem_iff_getElem.mp h
  exact ⟨v, hv, by rw [getElem!_pos os v hv]; exact e⟩
theorem low_0 (os : List (Option Int)) : lowD os 0 = os := by
  unfold lowD
  have : (Option.map (fun x : Int => x - 0)) = id := by funext o; cases o <;> simp
  rw [this, List.map_id]
theorem mind_min {n : Nat} {os : List (Option Int)} (h : MindOk n os) : ∃ w < os.length, os[w]! = some 0 := by
  have h := h.ok
  unfold ranksOk at h
  rw [Bool.and_eq_true, Bool.and_eq_true, decide_eq_true_eq] at h
  exact mem_get (fm_mem.mp (minI_mem h.2.2).1)
theorem kept_math {n : Nat} {os : List (Option Int)} {lot : List Nat} {b : Bool} (hm : MindOk n os) (hb : Bnd os 0 6000) (hl : LotOk n lot) (hne : lot ≠ []) :
    minI ((rawK b lot os).filterMap id) = some 0 ∧ (∃ hi, maxI ((rawK b lot os).filterMap id) = some hi ∧ hi - 0 ≤ 1000000) ∧ MindOk n (rawK b lot os) ∧ heldW (rawK b lot os) = movedF b (heldW os) lot := by
  have hlot : ∀ v ∈ lot, v < os.length := fun v hv => by rw [hm.len]; exact hl.2 v hv
  have I := raw_inv (b := b) hlot
  have rl : (rawK b lot os).length = os.length := I.len
  have bnd : Bnd (rawK b lot os) 0 6000 := fun i hi => by
    obtain ⟨v, hv, e⟩ := mem_get hi
    rw [rl] at hv
    obtain ⟨w, ⟨h1, _⟩, h2⟩ := I.a v i hv e
    exact hb i (get_mem h1 h2)
  have key : ∀ v, v ∈ movedL b (heldW os) lot ↔ (v < os.length ∧ (rawK b lot os)[v]! = some 0) := fun v => by
    unfold movedL
    rw [List.mem_flatMap]
    constructor
    · rintro ⟨w, hw, hv⟩
      unfold heldW at hw
      rw [List.mem_filter, List.mem_range, decide_eq_true_eq] at hw
      have hv2 := hlot v (nearF_mem hv)
      obtain ⟨y, e, hy⟩ := I.b w v 0 hv2 ⟨hw.1, hv⟩ hw.2
      have := (bnd y (get_mem (by rw [rl]; exact hv2) e)).1
      exact ⟨hv2, by rw [e]; congr 1; omega⟩
    · rintro ⟨hv, e⟩
      obtain ⟨w, ⟨h1, h2⟩, h3⟩ := I.a v 0 hv e
      refine ⟨w, ?_, h2⟩
      unfold heldW
      rw [List.mem_filter, List.mem_range, decide_eq_true_eq]
      exact ⟨h1, h3⟩
  have zero : (0 : Int) ∈ (rawK b lot os).filterMap id := by
    obtain ⟨w, hw, e⟩ := mind_min hm
    obtain ⟨v, hv⟩ := near_ne (b := b) (w := w) hne
    have hv2 := hlot v (nearF_mem hv)
    have : v ∈ movedL b (heldW os) lot := List.mem_flatMap.mpr ⟨w, by unfold heldW; rw [List.mem_filter, List.mem_range, decide_eq_true_eq]; exact ⟨hw, e⟩, hv⟩
    exact fm_mem.mpr (get_mem (by rw [rl]; exact hv2) ((key v).mp this).2)
  have h1 : minI ((rawK b lot os).filterMap id) = some 0 := minI_eq zero fun x hx => (bnd x (fm_mem.mp hx)).1
  refine ⟨h1, ?_, ?_, ?_⟩
  · obtain ⟨hi, e⟩ : ∃ hi, maxI ((rawK b lot os).filterMap id) = some hi := by
      cases e : (rawK b lot os).filterMap id with
      | nil => rw [e] at zero; cases zero
      | cons a l => exact ⟨_, rfl⟩
    have := bnd _ (fm_mem.mp (maxI_mem e).1)
    exact ⟨hi, e, by omega⟩
  · have := (low_ok (B := 6000) hm.h1 hm.h2 (by rw [rl]; exact hm.len) h1 (fun i hi => by have := bnd i hi; omega) (by decide)).1
    rwa [low_0] at this
  · unfold movedF heldW
    rw [rl]
    exact (sortU_range (n := os.length) (p := fun v => decide ((rawK b lot os)[v]! = some 0)) fun x => by rw [decide_eq_true_eq]; exact key x).symm
/-- moved, part by part -/
theorem parts_math {b : Bool} {held lot one other : List Nat} (h : ∀ w, w ∈ held ↔ w ∈ one ∨ w ∈ other) : sortN (once (movedF b one lot ++ movedF b other lot)) = movedF b held lot := by
  refine sortU_eq fun x => ?_
  unfold movedL
  rw [List.mem_append, movedF_mem, movedF_mem, List.mem_flatMap]
  constructor
  · rintro (⟨w, h1, h2⟩ | ⟨w, h1, h2⟩)
    · exact ⟨w, (h w).mpr (.inl h1), h2⟩
    · exact ⟨w, (h w).mpr (.inr h1), h2⟩
  · rintro ⟨w, h1, h2⟩
    rcases (h w).mp h1 with h1 | h1
    · exact .inl ⟨w, h1, h2⟩
    · exact .inr ⟨w, h1, h2⟩
end K66
namespace K66
open PySem PI
variable {sub : Str → Str → Option Bool} {k : Nat} {m : Bool} {st : Store}
/-! ### refusals -/
theorem h_true {F : Cf} {ρ : PI.Env} {h c : Str} {nm : Option Nat} {b : E} {r : Hs} {as : List D} (e : F.sub c h = some true) : evHs F (.cons h nm b r) c as ρ st = ofR (noErr (evE F b ρ) st) ρ fun d st' => .ok (.rt d) ρ st' := by
  rw [evHs, e]
  exact ofM_eq _ _ _ _
theorem h_false {F : Cf} {ρ : PI.Env} {h c : Str} {nm : Option Nat} {b : E} {r : Hs} {as : List D} (e : F.sub c h = some false) : evHs F (.cons h nm b r) c as ρ st = evHs F r c as ρ st := by
  rw [evHs, e]
theorem noErr_ok {α : Type} {x : M α} {a : α} {st' : Store} (e : x st = .ok a st') : noErr x st = .ok a st' := by
  unfold noErr; rw [e]
abbrev sb : Str → Str → Option Bool := subOf K66.subL
abbrev HS : Hs := (.cons "NoLetters" (some 5) (.lst false (.cons (.c (.str "letters")) .nil)) (.cons "NoMind" (some 5) (.lst false (.cons (.c (.str "mind")) .nil)) (.cons "NoLot" (some 5) (.lst false (.cons (.c (.str "lot")) .nil)) (.cons "NoWord" (some 5) (.lst false (.cons (.c (.str "word")) .nil)) (.cons "NoWorld" (some 5) (.lst false (.cons (.c (.str "world")) .nil)) (.cons "MindError" none (.lst false (.cons (.c (.str "other")) .nil)) .nil))))))
def kinds : List (Str × Str) := [("NoLetters", "letters"), ("NoMind", "mind"), ("NoLot", "lot"), ("NoWord", "word"), ("NoWorld", "world")]
theorem sbs : ∀ c ∈ kinds.map (·.1), ∀ d ∈ kinds.map (·.1), sb c d = some (decide (c = d)) := by decide +kernel
theorem hs_ok {F : Cf} (hF : F.sub = sb) {ρ : PI.Env} {c w : Str} (h : (c, w) ∈ kinds) : evHs F HS c [] ρ st = .ok (.rt (.lst [.str w])) ρ st := by
  have nl {s : Str} : noErr (evE F (.lst false (.cons (.c (.str s)) .nil)) ρ) st = .ok (.lst [.str s]) st := noErr_ok (by simp_arith)
  have t {c d : Str} (h1 : c ∈ kinds.map (·.1)) (h2 : d ∈ kinds.map (·.1)) : F.sub c d = some (decide (c = d)) := by rw [hF]; exact sbs c h1 d h2
  simp only [kinds, List.mem_cons, List.not_mem_nil, or_false, Prod.mk.injEq] at h
  rcases h with ⟨rfl, rfl⟩ | ⟨rfl, rfl⟩ | ⟨rfl, rfl⟩ | ⟨rfl, rfl⟩ | ⟨rfl, rfl⟩
  · rw [h_true (t (by decide +kernel) (by decide +kernel)), nl, ofR_ok]
  · rw [h_false (t (by decide +kernel) (by decide +kernel)), h_true (t (by decide +kernel) (by decide +kernel)), nl, ofR_ok]
  · rw [h_false (t (by decide +kernel) (by decide +kernel)), h_false (t (by decide +kernel) (by decide +kernel)), h_true (t (by decide +kernel) (by decide +kernel)), nl, ofR_ok]
  · rw [h_false (t (by decide +kernel) (by decide +kernel)), h_false (t (by decide +kernel) (by decide +kernel)), h_false (t (by decide +kernel) (by decide +kernel)), h_true (t (by decide +kernel) (by decide +kernel)), nl, ofR_ok]
  · rw [h_false (t (by decide +kernel) (by decide +kernel)), h_false (t (by decide +kernel) (by decide +kernel)), h_false (t (by decide +kernel) (by decide +kernel)), h_false (t (by decide +kernel) (by decide +kernel)), h_true (t (by decide +kernel) (by decide +kernel)), nl, ofR_ok]
theorem ref_0 {a b c d : D} {e w : Str} (hk : (e, w) ∈ kinds) (h : runF tab.tb sb k false "nearest" [a, b, c, d] st = .err e [] st) : runF tab.tb sb (k + 1) m "_law_refusal" [.int 0, a, b, c, d] st = .ok (.lst [.str w]) st := by
  have e4 {ρ : PI.Env} := hs_ok (F := ⟨runF tab.tb sb k, sb⟩) rfl (st := st) (ρ := ρ) hk
  rw [run_eq tb__law_refusal rfl (by decide), L__law_refusal]
  simp_arith [h, e4]
theorem ref_1 {a b c d : D} {e w : Str} (hk : (e, w) ∈ kinds) (h : runF tab.tb sb k false "moved" [a, b, c, d] st = .err e [] st) : runF tab.tb sb (k + 1) m "_law_refusal" [.int 1, a, b, c, d] st = .ok (.lst [.str w]) st := by
  have e4 {ρ : PI.Env} := hs_ok (F := ⟨runF tab.tb sb k, sb⟩) rfl (st := st) (ρ := ρ) hk
  have z1 : ¬ (1 : Int) = 0 := by decide
  rw [run_eq tb__law_refusal rfl (by decide), L__law_refusal]
  simp_arith [h, e4, z1]
theorem ref_2 {a b c d : D} {e w : Str} (hk : (e, w) ∈ kinds) (h : runF tab.tb sb k false "first_unlike" [a, c, d] st = .err e [] st) : runF tab.tb sb (k + 1) m "_law_refusal" [.int 2, a, b, c, d] st = .ok (.lst [.str w]) st := by
  have e4 {ρ : PI.Env} := hs_ok (F := ⟨runF tab.tb sb k, sb⟩) rfl (st := st) (ρ := ρ) hk
  have z1 : ¬ (2 : Int) = 0 := by decide
  have z2 : ¬ (2 : Int) = 1 := by decide
  rw [run_eq tb__law_refusal rfl (by decide), L__law_refusal]
  simp_arith [h, e4, z1, z2]
theorem ref_3 {a b c d : D} {e w : Str} (hk : (e, w) ∈ kinds) (h : runF tab.tb sb k false "kept_up" [a, c, d] st = .err e [] st) : runF tab.tb sb (k + 1) m "_law_refusal" [.int 3, a, b, c, d] st = .ok (.lst [.str w]) st := by
  have e4 {ρ : PI.Env} := hs_ok (F := ⟨runF tab.tb sb k, sb⟩) rfl (st := st) (ρ := ρ) hk
  have z1 : ¬ (3 : Int) = 0 := by decide
  have z2 : ¬ (3 : Int) = 1 := by decide
  have z3 : ¬ (3 : Int) = 2 := by decide
  rw [run_eq tb__law_refusal rfl (by decide), L__law_refusal]
  simp_arith [h, e4, z1, z2, z3]
/-! who raises what -/
theorem need_letters_f {d : D} (h : nref d = true) (h2 : btw d 1 6 = false) : runF tab.tb sub (k + 3) m "need_letters" [d] st = .err "NoLetters" [] st := by
  rw [run_eq tb_need_letters rfl (by decide), L_need_letters]
  simp_arith [is_between_ok h, h2]
theorem need_lot_l {d x : D} (h : nref d = true) (h2 : btw d 1 6 = false) : runF tab.tb sub (k + 4) m "need_lot" [d, x] st = .err "NoLetters" [] st := by
  rw [run_eq tb_need_lot rfl (by decide), L_need_lot]
  simp_arith [need_letters_f h h2]
def oddLet : List D := [.int 0, .int 7, .non, .bl true, .str "1"]
theorem oddLet_ok : ∀ d ∈ oddLet, nref d = true ∧ btw d 1 6 = false ∧ d.nr = true := by
  intro d hd
  simp only [oddLet, List.mem_cons, List.not_mem_nil, or_false] at hd
  rcases hd with rfl | rfl | rfl | rfl | rfl <;> exact ⟨rfl, rfl, rfl⟩
theorem ev_letters {d : D} (h : nref d = true) (h2 : btw d 1 6 = false) {a b c : D} : runF tab.tb sub (k + 6) m "nearest" [d, a, b, c] st = .err "NoLetters" [] st ∧ runF tab.tb sub (k + 6) m "moved" [d, a, b, c] st = .err "NoLetters" [] st ∧ runF tab.tb sub (k + 6) m "first_unlike" [d, b, c] st = .err "NoLetters" [] st := by
  have e1 {m : Bool} {k : Nat} {st : Store} {x : D} := need_lot_l (sub := sub) (k := k) (m := m) (st := st) (x := x) h h2
  have e2 {m : Bool} {k : Nat} {st : Store} := need_letters_f (sub := sub) (k := k) (m := m) (st := st) h h2
  refine ⟨?_, ?_, ?_⟩
  · rw [run_eq tb_nearest rfl (by decide), L_nearest]; simp_arith [e1]
  · rw [run_eq tb_moved rfl (by decide), L_moved]; simp_arith [e2]
  · rw [run_eq tb_first_unlike rfl (by decide), L_first_unlike]; simp_arith [e1]
theorem need_lot_f {n : Nat} {g : D} (h1 : 1 ≤ n) (h2 : n ≤ 6) (h : okN 1 g = true) (h3 : isLotD (2 ^ n) g = false) : runF tab.tb sub (k + 5) m "need_lot" [.int (n : Int), g] st = .err "NoLot" [] st := by
  rw [need_lot_ok h1 h2 (okN_ref h) (tup_lot h), h3]; rfl
theorem ev_lot {n : Nat} {held : List Nat} {g a c : D} (h1 : 1 ≤ n) (h2 : n ≤ 6) (hh : LotOk n held) (h : okN 1 g = true) (h3 : isLotD (2 ^ n) g = false) : runF tab.tb sub (k + 6) m "nearest" [.int (n : Int), a, g, c] st = .err "NoLot" [] st ∧ runF tab.tb sub (k + 6) m "moved" [.int (n : Int), .tup (held.map nD), g, c] st = .err "NoLot" [] st ∧ runF tab.tb sub (k + 6) m "first_unlike" [.int (n : Int), g, c] st = .err "NoLot" [] st ∧ runF tab.tb sub (k + 6) m "moved" [.int (n : Int), g, a, c] st = .err "NoLot" [] st := by
  have e0 {m : Bool} {k : Nat} {st : Store} := need_letters_ok (sub := sub) (k := k) (m := m) (st := st) h1 h2
  have e1 {m : Bool} {k : Nat} {st : Store} := need_lot_f (sub := sub) (k := k) (m := m) (st := st) h1 h2 h h3
  have e2 {m : Bool} {k : Nat} {st : Store} := need_lot_t (sub := sub) (k := k) (m := m) (st := st) h1 h2 hh
  refine ⟨?_, ?_, ?_, ?_⟩
  · rw [run_eq tb_nearest rfl (by decide), L_nearest]; simp_arith [e1]
  · rw [run_eq tb_moved rfl (by decide), L_moved]; simp_arith [e0, e2, e1]
  · rw [run_eq tb_first_unlike rfl (by decide), L_first_unlike]; simp_arith [e1]
  · rw [run_eq tb_moved rfl (by decide), L_moved]; simp_arith [e0, e1]
theorem ev_word {n w : Nat} {held lot : List Nat} {d : D} (h1 : 1 ≤ n) (h2 : n ≤ 6) (hw : w < 2 ^ n) (hh : LotOk n held) (hl : LotOk n lot) (h : d ∈ oddNear) : runF tab.tb sub (k + 6) m "nearest" [.int (n : Int), .int (w : Int), .tup (lot.map nD), d] st = .err "NoWord" [] st ∧ runF tab.tb sub (k + 6) m "moved" [.int (n : Int), .tup (held.map nD), .tup (lot.map nD), d] st = .err "NoWord" [] st ∧ runF tab.tb sub (k + 6) m "first_unlike" [.int (n : Int), .tup (lot.map nD), d] st = .err "NoWord" [] st := by
  have e0 {m : Bool} {k : Nat} {st : Store} := need_letters_ok (sub := sub) (k := k) (m := m) (st := st) h1 h2
  have e1 {m : Bool} {k : Nat} {st : Store} := need_lot_t (sub := sub) (k := k) (m := m) (st := st) h1 h2 hl
  have e2 {m : Bool} {k : Nat} {st : Store} := need_lot_t (sub := sub) (k := k) (m := m) (st := st) h1 h2 hh
  have e3 {m : Bool} {k : Nat} {st : Store} := need_near_f (sub := sub) (k := k) (m := m) (st := st) h
  have e4 {m : Bool} {k : Nat} {st : Store} := need_lot_t (sub := sub) (k := k) (m := m) (st := st) h1 h2 (one_lot hw)
  simp only [List.map_cons, List.map_nil, nD_ap] at e4
  refine ⟨?_, ?_, ?_⟩
  · rw [run_eq tb_nearest rfl (by decide), L_nearest]; simp_arith [e1, e3, e4]
  · rw [run_eq tb_moved rfl (by decide), L_moved]; simp_arith [e0, e2, e1, e3]
  · rw [run_eq tb_first_unlike rfl (by decide), L_first_unlike]; simp_arith [e1, e3]
def oddW (n : Nat) : List D := [.int (-1), .int ((2 ^ n : Nat) : Int), .non, .bl true, .str "0"]
theorem oddW_ok {n : Nat} : ∀ d ∈ oddW n, okN 1 (.tup [d]) = true ∧ isLotD (2 ^ n) (.tup [d]) = false ∧ d.nr = true := by
  intro d hd
  simp only [oddW, List.mem_cons, List.not_mem_nil, or_false] at hd
  rcases hd with rfl | rfl | rfl | rfl | rfl
  · exact ⟨rfl, by simp [isLotD, toInts], rfl⟩
  · refine ⟨rfl, ?_, rfl⟩
    have hp : 0 < 2 ^ n := Nat.two_pow_pos n
    generalize 2 ^ n = N at hp ⊢
    simp [isLotD, toInts]
    intro h
    omega
  · exact ⟨rfl, by simp [isLotD, toInts], rfl⟩
  · exact ⟨rfl, by simp [isLotD, toInts], rfl⟩
  · exact ⟨rfl, by simp [isLotD, toInts], rfl⟩
theorem ev_world {n : Nat} {lot : List Nat} {d c : D} (h1 : 1 ≤ n) (h2 : n ≤ 6) (hl : LotOk n lot) (h : d ∈ oddW n) : runF tab.tb sub (k + 6) m "nearest" [.int (n : Int), d, .tup (lot.map nD), c] st = .err "NoLot" [] st := by
  obtain ⟨q1, q2, _⟩ := oddW_ok d h
  have e1 {m : Bool} {k : Nat} {st : Store} := need_lot_t (sub := sub) (k := k) (m := m) (st := st) h1 h2 hl
  have e4 {m : Bool} {k : Nat} {st : Store} := need_lot_f (sub := sub) (k := k) (m := m) (st := st) h1 h2 q1 q2
  rw [run_eq tb_nearest rfl (by decide), L_nearest]; simp_arith [e1, e4]
/-! keeping up -/
theorem kept_up_ok {b : Bool} {n : Nat} {os : List (Option Int)} {lot : List Nat} (hm : MindOk n os) (hb : Bnd os 0 6000) (hl : LotOk n lot) (hne : lot ≠ []) : runF tab.tb sub (k + 6) m "kept_up" [mindD n os, .tup (lot.map nD), nrD b] st = .ok (mindD n (rawK b lot os)) st := by
  obtain ⟨q1, ⟨hi, q2, q3⟩, _, _⟩ := kept_math (b := b) hm hb hl hne
  have e0 {m : Bool} {k : Nat} {st : Store} := need_mind_t (sub := sub) (k := k) (m := m) (st := st) hm
  have e1 {m : Bool} {k : Nat} {st : Store} := need_lot_t (sub := sub) (k := k) (m := m) (st := st) hm.h1 hm.h2 hl
  have e3 {m : Bool} {k : Nat} {st : Store} := need_near_t (sub := sub) (k := k) (m := m) (st := st) (b := b)
  have e4 {m : Bool} {k : Nat} {st : Store} := kept_up_of_ok (sub := sub) (k := k) (m := m) (st := st) (b := b) hm hl q1 q2 q3
  rw [low_0] at e4
  have z : ¬ ((lot.length : Nat) : Int) = 0 := by
    cases lot with
    | nil => exact (hne rfl).elim
    | cons a l => rw [List.length_cons]; omega
  rw [run_eq tb_kept_up rfl (by decide), L_kept_up]
  rw [nrD_ap] at e3 e4 ⊢
  rw [mindD_ap] at e0
  rw [mindD_ap, mindD_ap] at e4 ⊢
  simp_arith [e0, e1, e3, e4, z]
theorem ev_mind {d a c : D} (h : okN 2 d = true) (h2 : isMindD d = false) : runF tab.tb sub (k + 6) m "kept_up" [d, a, c] st = .err "NoMind" [] st := by
  have e1 {m : Bool} {k : Nat} {st : Store} := need_mind_ok (sub := sub) (k := k) (m := m) (st := st) h
  rw [h2] at e1
  rw [run_eq tb_kept_up rfl (by decide), L_kept_up]
  simp_arith [e1]
theorem ev_kl {n : Nat} {os : List (Option Int)} {g c : D} (hm : MindOk n os) (h : okN 1 g = true) (h3 : isLotD (2 ^ n) g = false) : runF tab.tb sub (k + 6) m "kept_up" [mindD n os, g, c] st = .err "NoLot" [] st := by
  have e0 {m : Bool} {k : Nat} {st : Store} := need_mind_t (sub := sub) (k := k) (m := m) (st := st) hm
  have e1 {m : Bool} {k : Nat} {st : Store} := need_lot_f (sub := sub) (k := k) (m := m) (st := st) hm.h1 hm.h2 h h3
  rw [run_eq tb_kept_up rfl (by decide), L_kept_up]
  rw [mindD_ap] at e0 ⊢
  simp_arith [e0, e1]
theorem ev_kw {n : Nat} {os : List (Option Int)} {lot : List Nat} {d : D} (hm : MindOk n os) (hl : LotOk n lot) (h : d ∈ oddNear) : runF tab.tb sub (k + 6) m "kept_up" [mindD n os, .tup (lot.map nD), d] st = .err "NoWord" [] st := by
  have e0 {m : Bool} {k : Nat} {st : Store} := need_mind_t (sub := sub) (k := k) (m := m) (st := st) hm
  have e1 {m : Bool} {k : Nat} {st : Store} := need_lot_t (sub := sub) (k := k) (m := m) (st := st) hm.h1 hm.h2 hl
  have e3 {m : Bool} {k : Nat} {st : Store} := need_near_f (sub := sub) (k := k) (m := m) (st := st) h
  rw [run_eq tb_kept_up rfl (by decide), L_kept_up]
  rw [mindD_ap] at e0 ⊢
  simp_arith [e0, e1, e3]
theorem ev_k0 {b : Bool} {n : Nat} {os : List (Option Int)} (hm : MindOk n os) : runF tab.tb sub (k + 6) m "kept_up" [mindD n os, .tup [], nrD b] st = .err "NoWorld" [] st := by
  have e0 {m : Bool} {k : Nat} {st : Store} := need_mind_t (sub := sub) (k := k) (m := m) (st := st) hm
  have e1 {m : Bool} {k : Nat} {st : Store} := need_lot_t (sub := sub) (k := k) (m := m) (st := st) hm.h1 hm.h2 (l := []) ⟨List.Pairwise.nil, fun _ h => nomatch h⟩
  rw [List.map_nil] at e1
  have e3 {m : Bool} {k : Nat} {st : Store} := need_near_t (sub := sub) (k := k) (m := m) (st := st) (b := b)
  have lt {st : Store} {m : Bool} : bi m .len [.tup []] st = .ok (.int 0) st := rfl
  rw [run_eq tb_kept_up rfl (by decide), L_kept_up]
  rw [nrD_ap] at e3 ⊢
  rw [mindD_ap] at e0 ⊢
  simp_arith [e0, e1, e3, lt]
end K66
namespace K66
open PySem PI
variable {k : Nat} {st : Store}
theorem kpt_lot {l : List Nat} (h : l.length ≤ 1000) : kpt 1 (.tup (l.map nD)) = true := by
  rw [kpt, List.length_map, decide_eq_true h, Bool.true_and, List.all_map, List.all_eq_true]
  intro x _; rfl
theorem kpb_lot {l : List Nat} (h : l.length ≤ 1000) : kpb 1 (.tup (l.map nD)) = true := by
  rw [kpb, List.length_map, decide_eq_true h, Bool.true_and, List.all_map, List.all_eq_true]
  intro x _; rfl
theorem kept_lot {sub : Str → Str → Option Bool} {m : Bool} {l : List Nat} (h : l.length ≤ 1000) : runF tab.tb sub (k + 2) m "_law_kept" [.tup (l.map nD), .tup (l.map nD)] st = .ok (.bl true) st := by
  have e := kept_ok (sub := sub) 1 (k := k) (m := m) (st := st) (kpt_lot h) (kpb_lot h) (by decide)
  rw [decide_eq_true rfl] at e; exact e
theorem kept_oP {sub : Str → Str → Option Bool} {m : Bool} {o : Option (Nat × Nat)} : runF tab.tb sub (k + 2) m "_law_kept" [oP o, oP o] st = .ok (.bl true) st := by
  have h1 : kpt 1 (oP o) = true := by cases o <;> rfl
  have h2 : kpb 1 (oP o) = true := by cases o <;> rfl
  have e := kept_ok (sub := sub) 1 (k := k) (m := m) (st := st) h1 h2 (by decide)
  rw [decide_eq_true rfl] at e; exact e
theorem kept_mind {sub : Str → Str → Option Bool} {m : Bool} {n : Nat} {os : List (Option Int)} (h : os.length ≤ 1000) : runF tab.tb sub (k + 3) m "_law_kept" [mindD n os, mindD n os] st = .ok (.bl true) st := by
  have h1 : kpt 1 (.tup (os.map oD)) = true := by
    rw [kpt, List.length_map, decide_eq_true h, Bool.true_and, List.all_map, List.all_eq_true]
    intro x _; cases x <;> rfl
  have h2 : kpb 1 (.tup (os.map oD)) = true := by
    rw [kpb, List.length_map, decide_eq_true h, Bool.true_and, List.all_map, List.all_eq_true]
    intro x _; cases x <;> rfl
  have h3 : kpt 2 (mindD n os) = true := by
    rw [mindD_ap, kpt]
    show (decide (2 ≤ 1000) && (kpt 1 (.int (n : Int)) && (kpt 1 (.tup (os.map oD)) && true))) = true
    rw [h1]; rfl
  have h4 : kpb 2 (mindD n os) = true := by
    rw [mindD_ap, kpb]
    show (decide (2 ≤ 1000) && (kpb 1 (.int (n : Int)) && (kpb 1 (.tup (os.map oD)) && true))) = true
    rw [h2]; rfl
  have e := kept_ok (sub := sub) 2 (k := k) (m := m) (st := st) h3 h4 (by decide)
  rw [decide_eq_true rfl] at e; exact e
abbrev LF (k : Nat) : Cf := ⟨runF tab.tb sb (k + 20), sb⟩
section
variable {n h w : Nat} {b : Bool} {lot held full : List Nat} {os : List (Option Int)} {x0 x1 x2 x3 x4 x5 x6 x7 x8 x9 x10 x11 x12 x13 x14 x15 x16 x17 x18 x19 x20 x21 : Option D}
theorem st_0 (hh : HandAt st h) : ∃ (v : Nat) (s1 : Store), v < 4 ∧ Upd h st s1 ∧ evS (LF k) (L_law_b9.nth 0) [x0, some (.ref h), x2, x3, x4, x5, x6, x7, x8, x9, x10, x11, x12, x13, x14, x15, x16, x17, x18, x19, x20, x21] st = .ok .nx [x0, some (.ref h), x2, some (.int ((1 + v : Nat) : Int)), x4, x5, x6, x7, x8, x9, x10, x11, x12, x13, x14, x15, x16, x17, x18, x19, x20, x21] s1 := by
  obtain ⟨v, s1, hv, u1, r1⟩ := draw_ok (sub := sb) (many := 4) hh (by decide) (by decide)
  have r1 : ∀ m k, runF tab.tb sb (k + 1) m "_law_draw" [.ref h, .int 4] st = .ok (.int ((v : Nat) : Int)) s1 := r1
  have hc : (1 : Int) + (v : Int) = ((1 + v : Nat) : Int) := by omega
  refine ⟨v, s1, hv, u1, ?_⟩
  rw [L_law_b9]
  simp_arith [r1, hc]
theorem st_1 (hn : n ≤ 4) (hh : HandAt st h) : ∃ (b : Bool) (s1 : Store), Upd h st s1 ∧ evS (LF k) (L_law_b9.nth 1) [x0, some (.ref h), x2, some (.int (n : Int)), x4, x5, x6, x7, x8, x9, x10, x11, x12, x13, x14, x15, x16, x17, x18, x19, x20, x21] st = .ok .nx [x0, some (.ref h), x2, some (.int (n : Int)), x4, x5, x6, x7, x8, some (.int ((2 ^ n : Nat) : Int)), some (nrD b), x11, x12, x13, x14, x15, x16, x17, x18, x19, x20, x21] s1 := by
  obtain ⟨d, s1, q1, u1, r1⟩ := some_ok (sub := sb) (k := k + 18) (m := false) (l := [D.str "letters", .str "lots"]) hh (by decide) (by decide) (fun d hd => by
    simp only [List.mem_cons, List.not_mem_nil, or_false] at hd
    rcases hd with rfl | rfl <;> exact nr_str _)
  obtain ⟨b, rfl⟩ : ∃ b, d = nrD b := by
    simp only [List.mem_cons, List.not_mem_nil, or_false] at q1
    rcases q1 with rfl | rfl
    · exact ⟨true, rfl⟩
    · exact ⟨false, rfl⟩
  have sh {st : Store} : op2 false .shl (.int 1) (.int (n : Int)) st = .ok (.int ((2 ^ n : Nat) : Int)) st := by rw [op_shl1 _ (by omega)]
  refine ⟨b, s1, u1, ?_⟩
  rw [L_law_b9]
  simp_arith [sh, r1]
theorem st_2 (hn : n ≤ 4) (hh : HandAt st h) : ∃ (lot held : List Nat) (w : Nat) (s1 : Store), LotOk n lot ∧ LotOk n held ∧ w < 2 ^ n ∧ Upd h st s1 ∧ evS (LF k) (L_law_b9.nth 2) [x0, some (.ref h), x2, some (.int (n : Int)), x4, x5, x6, x7, x8, some (.int ((2 ^ n : Nat) : Int)), some (nrD b), x11, x12, x13, x14, x15, x16, x17, x18, x19, x20, x21] st = .ok .nx [x0, some (.ref h), x2, some (.int (n : Int)), x4, x5, x6, x7, x8, some (.int ((2 ^ n : Nat) : Int)), some (nrD b), some (.tup (lot.map nD)), some (.tup (held.map nD)), some (.int (w : Int)), x14, x15, x16, x17, x18, x19, x20, x21] s1 := by
  have hp : 2 ^ n ≤ 16 := Nat.pow_le_pow_right (n := 2) (by decide) hn
  obtain ⟨lot, s1, q1, u1, r1⟩ := lot_ok (sub := sb) (k := k + 18) (m := false) (n := n) hh (by omega)
  obtain ⟨held, s2, q2, u2, r2⟩ := lot_ok (sub := sb) (k := k + 18) (m := false) (n := n) u1.hand (by omega)
  obtain ⟨w, s3, hw, u3, r3⟩ := draw_ok (sub := sb) (many := 2 ^ n) u2.hand (Nat.two_pow_pos n) (by omega)
  refine ⟨lot, held, w, s3, q1, q2, hw, (u1.trans u2).trans u3, ?_⟩
  rw [L_law_b9]
  simp_arith [r1, r2, r3]
theorem st_3 (h1 : 1 ≤ n) (hn : n ≤ 4) (hl : LotOk n lot) (hh : LotOk n held) (hw : w < 2 ^ n) : evS (LF k) (L_law_b9.nth 3) [x0, some (.ref h), x2, some (.int (n : Int)), x4, x5, x6, x7, x8, some (.int ((2 ^ n : Nat) : Int)), some (nrD b), some (.tup (lot.map nD)), some (.tup (held.map nD)), some (.int (w : Int)), x14, x15, x16, x17, x18, x19, x20, x21] st = .ok .nx [x0, some (.ref h), x2, some (.int (n : Int)), x4, x5, x6, x7, x8, some (.int ((2 ^ n : Nat) : Int)), some (nrD b), some (.tup (lot.map nD)), some (.tup (held.map nD)), some (.int (w : Int)), x14, x15, x16, x17, x18, x19, x20, x21] st := by
  have e1 := nearest_ok (sub := sb) (k := k + 14) (m := false) (st := st) (b := b) h1 (by omega) hw hl
  have e2 := law_nearest_ok (sub := sb) (k := k + 18) (m := false) (st := st) (b := b) hn hw hl
  have hf := nearF_len b w lot
  have hll := lot16 hn hl
  have e3 := kept_lot (sub := sb) (k := k + 18) (m := false) (st := st) (l := nearF b w lot) (by omega)
  rw [L_law_b9]
  simp_arith [e1, e2, e3]
theorem moved_16 (hn : n ≤ 4) (hl : LotOk n lot) : (movedF b held lot).length ≤ 16 := by
  have : (once (movedL b held lot)).length ≤ 16 := once_below fun x hx => lt16 hn (hl.2 x (movedL_mem hx))
  unfold movedF
  rw [len_sortN]; exact this
theorem st_4 (h1 : 1 ≤ n) (hn : n ≤ 4) (hl : LotOk n lot) (hh : LotOk n held) : evS (LF k) (L_law_b9.nth 4) [x0, some (.ref h), x2, some (.int (n : Int)), x4, x5, x6, x7, x8, some (.int ((2 ^ n : Nat) : Int)), some (nrD b), some (.tup (lot.map nD)), some (.tup (held.map nD)), some (.int (w : Int)), x14, x15, x16, x17, x18, x19, x20, x21] st = .ok .nx [x0, some (.ref h), x2, some (.int (n : Int)), x4, x5, x6, x7, x8, some (.int ((2 ^ n : Nat) : Int)), some (nrD b), some (.tup (lot.map nD)), some (.tup (held.map nD)), some (.int (w : Int)), x14, x15, x16, x17, x18, x19, x20, x21] st := by
  have e1 := moved_ok (sub := sb) (k := k + 14) (m := false) (st := st) (b := b) h1 (by omega) hh hl
  have e2 := law_moved_ok (sub := sb) (k := k + 17) (m := false) (st := st) (b := b) hn hh.2 (lot16 hn hh) hl
  have hf := moved_16 (b := b) (held := held) hn hl
  have e3 := kept_lot (sub := sb) (k := k + 18) (m := false) (st := st) (l := movedF b held lot) (by omega)
  rw [L_law_b9]
  simp_arith [e1, e2, e3]
theorem st_5 (h1 : 1 ≤ n) (hn : n ≤ 4) (hl : LotOk n lot) : evS (LF k) (L_law_b9.nth 5) [x0, some (.ref h), x2, some (.int (n : Int)), x4, x5, x6, x7, x8, some (.int ((2 ^ n : Nat) : Int)), some (nrD b), some (.tup (lot.map nD)), some (.tup (held.map nD)), some (.int (w : Int)), x14, x15, x16, x17, x18, x19, x20, x21] st = .ok .nx [x0, some (.ref h), x2, some (.int (n : Int)), x4, x5, x6, x7, x8, some (.int ((2 ^ n : Nat) : Int)), some (nrD b), some (.tup (lot.map nD)), some (.tup (held.map nD)), some (.int (w : Int)), x14, x15, x16, x17, x18, x19, x20, x21] st := by
  have e1 := first_ok (sub := sb) (k := k + 14) (m := false) (st := st) (b := b) h1 (by omega) hl
  have e2 := law_first_ok (sub := sb) (k := k + 16) (m := false) (st := st) (b := b) hn hl
  have e3 := kept_oP (sub := sb) (k := k + 18) (m := false) (st := st) (o := findU (unlF b lot) (2 ^ n))
  rw [L_law_b9]
  by_cases q : (n : Int) < 4
  · simp_arith [decide_eq_true q, e1, e2, e3]
  · simp_arith [decide_eq_false q]
theorem st_6 (h1 : 1 ≤ n) (hn : n ≤ 4) (hh : HandAt st h) : ∃ (os : List (Option Int)) (full : List Nat) (s1 : Store), MindOk n os ∧ Bnd os 0 6000 ∧ LotOk n full ∧ full ≠ [] ∧ Upd h st s1 ∧ evS (LF k) (L_law_b9.nth 6) [x0, some (.ref h), x2, some (.int (n : Int)), x4, x5, x6, x7, x8, some (.int ((2 ^ n : Nat) : Int)), some (nrD b), some (.tup (lot.map nD)), some (.tup (held.map nD)), some (.int (w : Int)), x14, x15, x16, x17, x18, x19, x20, x21] st = .ok .nx [x0, some (.ref h), x2, some (.int (n : Int)), x4, x5, x6, x7, x8, some (.int ((2 ^ n : Nat) : Int)), some (nrD b), some (.tup (lot.map nD)), some (.tup (held.map nD)), some (.int (w : Int)), some (mindD n os), some (.tup (full.map nD)), x16, x17, x18, x19, x20, x21] s1 := by
  obtain ⟨os, s1, q1, q2, u1, r1⟩ := law_mind_ok (sub := sb) (k := k + 18) (m := false) (n := n) h1 (by omega) hh
  obtain ⟨full, s2, q3, q4, u2, r2⟩ := full_lot_ok (sub := sb) (k := k + 17) (m := false) (n := n) u1.hand (by omega)
  refine ⟨os, full, s2, q1, q2, q3, q4, u1.trans u2, ?_⟩
  rw [L_law_b9]
  simp_arith [r1, r2]
theorem st_7 (hn : n ≤ 4) : evS (LF k) (L_law_b9.nth 7) [x0, some (.ref h), x2, some (.int (n : Int)), x4, x5, x6, x7, x8, some (.int ((2 ^ n : Nat) : Int)), some (nrD b), some (.tup (lot.map nD)), some (.tup (held.map nD)), some (.int (w : Int)), some (mindD n os), some (.tup (full.map nD)), x16, x17, x18, x19, x20, x21] st = .ok .nx [x0, some (.ref h), x2, some (.int (n : Int)), some (.ref (st.length + 1)), x5, x6, x7, x8, some (.int ((2 ^ n : Nat) : Int)), some (nrD b), some (.tup (lot.map nD)), some (.tup (held.map nD)), some (.int (w : Int)), some (mindD n os), some (.tup (full.map nD)), x16, x17, x18, x19, x20, x21] ((st ++ [.lst [.non]]) ++ [.lst ((List.replicate (2 ^ n) none).map oD)]) := by
  have hp : 2 ^ n ≤ 16 := Nat.pow_le_pow_right (n := 2) (by decide) hn
  have mk := nones (st := st) (n := 2 ^ n) (by omega)
  rw [L_law_b9]
  simp_arith [mk]
theorem there_loop {N i : Nat} {r : List (Option Int)} (hN : st.length = N) (hm : MindOk n os) (hi : i < os.length) (hr : r.length = os.length) (hl : ∀ v ∈ full, v < os.length) :
    ∃ y, forL (.nm 16) (evSs (LF k) L_law_b0) ⟨[], (nearF b i full).map nD, false⟩ ((nearF b i full).map nD) [x0, some (.ref h), x2, some (.int (n : Int)), some (.ref N), some (.int (i : Int)), x6, x7, x8, some (.int ((2 ^ n : Nat) : Int)), some (nrD b), some (.tup (lot.map nD)), some (.tup (held.map nD)), some (.int (w : Int)), some (mindD n os), some (.tup (full.map nD)), x16, x17, x18, x19, x20, x21] (st ++ [.lst (r.map oD)]) = .ok .nx [x0, some (.ref h), x2, some (.int (n : Int)), some (.ref N), some (.int (i : Int)), x6, x7, x8, some (.int ((2 ^ n : Nat) : Int)), some (nrD b), some (.tup (lot.map nD)), some (.tup (held.map nD)), some (.int (w : Int)), some (mindD n os), some (.tup (full.map nD)), y, x17, x18, x19, x20, x21] (st ++ [.lst (((nearF b i full).foldl (putL os[i]!) r).map oD)]) := by
  subst hN
  obtain ⟨ρ2, s2, h1, _, h2, x, h3⟩ := forL_inv (e := nD) (tg := .nm 16) (body := evSs (LF k) L_law_b0) (src := ⟨[], (nearF b i full).map nD, false⟩)
    (fun pre post ρ s => (∀ v ∈ post, v < os.length) ∧ s = st ++ [.lst ((pre.foldl (putL os[i]!) r).map oD)] ∧ ∃ y, ρ = [x0, some (.ref h), x2, some (.int (n : Int)), some (.ref st.length), some (.int (i : Int)), x6, x7, x8, some (.int ((2 ^ n : Nat) : Int)), some (nrD b), some (.tup (lot.map nD)), some (.tup (held.map nD)), some (.int (w : Int)), some (mindD n os), some (.tup (full.map nD)), y, x17, x18, x19, x20, x21])
    (nearF b i full) [] [x0, some (.ref h), x2, some (.int (n : Int)), some (.ref st.length), some (.int (i : Int)), x6, x7, x8, some (.int ((2 ^ n : Nat) : Int)), some (nrD b), some (.tup (lot.map nD)), some (.tup (held.map nD)), some (.int (w : Int)), some (mindD n os), some (.tup (full.map nD)), x16, x17, x18, x19, x20, x21] (st ++ [.lst (r.map oD)]) ⟨fun v hv => hl v (nearF_mem hv), rfl, x16, rfl⟩
    (fun pre o post ρ s hI => by
      obtain ⟨hp, rfl, y, rfl⟩ := hI
      have ho := hp o List.mem_cons_self
      have hlen := putsL_len os[i]! pre r
      have a1 := at_end st (.lst ((pre.foldl (putL os[i]!) r).map oD))
      have z1 := ix_ref a1 (v := o) (by rw [List.length_map, hlen, hr]; exact ho)
      rw [map_at (by rw [hlen, hr]; exact ho)] at z1
      have z2 := set_ref (d := oD (lesO (pre.foldl (putL os[i]!) r)[o]! os[i]!)) a1 (v := o) (by rw [List.length_map, hlen, hr]; exact ho)
      rw [← List.map_set, set_end] at z2
      have z3 {st : Store} : getIx (.tup (os.map oD)) (.int (i : Int)) st = .ok (oD os[i]!) st := by
        rw [ix_tM (by omega) (by omega), Int.toNat_natCast]
      have z4 {x y : Option Int} {st : Store} := law_lesser_ok (sub := sb) (k := k + 19) (m := false) (st := st) (x := x) (y := y)
      refine ⟨rfl, _, by simp_arith; rfl, _, _, ?_, fun v hv => hp v (List.mem_cons_of_mem _ hv), rfl, some (nD o), rfl⟩
      rw [L_law_b0, List.foldl_append, List.foldl_cons, List.foldl_nil]
      simp_arith [mindD_ap, z1, z2, z3, z4, putL])
    (fun _ _ _ _ => rfl)
  rw [List.nil_append] at h2
  subst h2
  exact ⟨x, by rw [h3] at h1; exact h1⟩
theorem st_8 {N : Nat} (hN : st.length = N) (hn : n ≤ 4) (hm : MindOk n os) (hl : LotOk n full) : ∃ y5 y16, evS (LF k) (L_law_b9.nth 8) [x0, some (.ref h), x2, some (.int (n : Int)), some (.ref N), x5, x6, x7, x8, some (.int ((2 ^ n : Nat) : Int)), some (nrD b), some (.tup (lot.map nD)), some (.tup (held.map nD)), some (.int (w : Int)), some (mindD n os), some (.tup (full.map nD)), x16, x17, x18, x19, x20, x21] (st ++ [.lst ((List.replicate (2 ^ n) none).map oD)]) = .ok .nx [x0, some (.ref h), x2, some (.int (n : Int)), some (.ref N), y5, x6, x7, x8, some (.int ((2 ^ n : Nat) : Int)), some (nrD b), some (.tup (lot.map nD)), some (.tup (held.map nD)), some (.int (w : Int)), some (mindD n os), some (.tup (full.map nD)), y16, x17, x18, x19, x20, x21] (st ++ [.lst ((rawK b full os).map oD)]) := by
  have hp : 2 ^ n ≤ 16 := Nat.pow_le_pow_right (n := 2) (by decide) hn
  have hlen := hm.len
  have hlot : ∀ v ∈ full, v < os.length := fun v hv => by rw [hm.len]; exact hl.2 v hv
  obtain ⟨ρ2, s2, q1, q2, q3, y5, y16, q4⟩ := forL_inv (e := nD) (tg := .nm 5) (body := evSs (LF k) L_law_b2) (src := ⟨[], (List.range os.length).map nD, true⟩)
    (fun pre post ρ s => s = st ++ [.lst ((pre.foldl (stepK b full os) (List.replicate os.length none)).map oD)] ∧ (∀ w ∈ post, w < os.length) ∧ ∃ y5 y16, ρ = [x0, some (.ref h), x2, some (.int (n : Int)), some (.ref N), y5, x6, x7, x8, some (.int ((2 ^ n : Nat) : Int)), some (nrD b), some (.tup (lot.map nD)), some (.tup (held.map nD)), some (.int (w : Int)), some (mindD n os), some (.tup (full.map nD)), y16, x17, x18, x19, x20, x21])
    (List.range os.length) [] [x0, some (.ref h), x2, some (.int (n : Int)), some (.ref N), x5, x6, x7, x8, some (.int ((2 ^ n : Nat) : Int)), some (nrD b), some (.tup (lot.map nD)), some (.tup (held.map nD)), some (.int (w : Int)), some (mindD n os), some (.tup (full.map nD)), x16, x17, x18, x19, x20, x21] (st ++ [.lst ((List.replicate os.length none).map oD)]) ⟨rfl, fun w hw => List.mem_range.mp hw, x5, x16, rfl⟩
    (fun pre i post ρ s hI => by
      obtain ⟨rfl, hp, y5, y16, rfl⟩ := hI
      have hi := hp i List.mem_cons_self
      have hlen2 := foldK_len b full os pre (List.replicate os.length none)
      rw [List.length_replicate] at hlen2
      have e {st : Store} := law_nearest_ok (sub := sb) (k := k + 18) (m := false) (st := st) (b := b) (lot := full) (w := i) hn (by rw [← hm.len]; exact hi) hl
      obtain ⟨y, q⟩ := there_loop (k := k) (st := st) (b := b) (n := n) (h := h) (w := w) (lot := lot) (held := held) (x0 := x0) (x2 := x2) (x6 := x6) (x7 := x7) (x8 := x8) (x16 := y16) (x17 := x17) (x18 := x18) (x19 := x19) (x20 := x20) (x21 := x21) (full := full) (r := pre.foldl (stepK b full os) (List.replicate os.length none)) hN hm hi hlen2 hlot
      refine ⟨rfl, _, by simp_arith; rfl, _, _, ?_, rfl, fun w hw => hp w (List.mem_cons_of_mem _ hw), some (nD i), y, rfl⟩
      have eq : stepK b full os (pre.foldl (stepK b full os) (List.replicate os.length none)) i = (nearF b i full).foldl (putL os[i]!) (pre.foldl (stepK b full os) (List.replicate os.length none)) := rfl
      rw [L_law_b2, L_law_f1, List.foldl_append, List.foldl_cons, List.foldl_nil, eq]
      rw [mindD_ap] at q
      simp_arith [s_for, mindD_ap, e, q])
    (fun _ _ _ _ => rfl)
  rw [List.nil_append] at q2
  subst q2
  rw [q4] at q1
  refine ⟨y5, y16, ?_⟩
  have r2 {st : Store} : rangeSrc [.int ((2 ^ n : Nat) : Int)] st = .ok ⟨[], (List.range os.length).map nD, true⟩ st := by rw [hlen]; exact rng1 (2 ^ n) (by omega)
  have rk : rawK b full os = (List.range os.length).foldl (stepK b full os) (List.replicate os.length none) := rfl
  rw [L_law_b9, Ss.nth, Ss.nth, Ss.nth, Ss.nth, Ss.nth, Ss.nth, Ss.nth, Ss.nth, Ss.nth, L_law_f3, s_for, rk, ← hlen]
  simp_arith [r2]
  rw [hlen]
  rw [hlen] at q1
  exact q1
end
end K66
namespace K66
open PySem PI
variable {k : Nat} {st : Store}
/-- the held ones with this part -/
def pick (vs held : List Nat) (c : Nat) : List Nat := ((List.range held.length).filter fun i => decide (vs[i]! = c)).map fun i => held[i]!
theorem pick_mem {vs held : List Nat} {c w : Nat} : w ∈ pick vs held c ↔ ∃ i < held.length, vs[i]! = c ∧ held[i]! = w := by
  unfold pick
  rw [List.mem_map]
  constructor
  · rintro ⟨i, h1, h2⟩
    rw [List.mem_filter, List.mem_range, decide_eq_true_eq] at h1
    exact ⟨i, h1.1, h1.2, h2⟩
  · rintro ⟨i, h1, h2, h3⟩
    exact ⟨i, by rw [List.mem_filter, List.mem_range, decide_eq_true_eq]; exact ⟨h1, h2⟩, h3⟩
theorem pick_lot {n c : Nat} {vs held : List Nat} (h : LotOk n held) : LotOk n (pick vs held c) := by
  refine ⟨?_, fun w hw => ?_⟩
  · unfold pick
    rw [List.pairwise_map]
    have h0 : (List.range held.length).Pairwise fun i j => i < held.length ∧ j < held.length ∧ i < j := by
      rw [List.pairwise_iff_getElem]
      intro i j hi hj hij
      have hi2 : i < held.length := by rwa [List.length_range] at hi
      have hj2 : j < held.length := by rwa [List.length_range] at hj
      rw [List.getElem_range, List.getElem_range]
      exact ⟨hi2, hj2, hij⟩
    refine (List.Pairwise.filter _ h0).imp fun {i j} z => ?_
    obtain ⟨hi, hj, hij⟩ := z
    rw [getElem!_pos held i hi, getElem!_pos held j hj]
    exact List.pairwise_iff_getElem.mp h.1 i j hi hj hij
  · obtain ⟨i, hi, _, e⟩ := pick_mem.mp hw
    rw [← e, getElem!_pos held i hi]
    exact h.2 _ (List.getElem_mem hi)
theorem pick_all {vs held : List Nat} (hl : vs.length = held.length) (hv : ∀ v ∈ vs, v < 2) (w : Nat) : w ∈ held ↔ w ∈ pick vs held 0 ∨ w ∈ pick vs held 1 := by
  rw [pick_mem, pick_mem]
  constructor
  · intro hw
    obtain ⟨i, hi, e⟩ := List.mem_iff_getElem.mp hw
    have h1 : i < vs.length := by omega
    have h2 := hv vs[i] (List.getElem_mem h1)
    have h3 : vs[i]! = vs[i] := getElem!_pos vs i h1
    have h4 : held[i]! = w := by rw [getElem!_pos held i hi]; exact e
    by_cases q : vs[i] = 0
    · exact .inl ⟨i, hi, by omega, h4⟩
    · exact .inr ⟨i, hi, by omega, h4⟩
  · rintro (⟨i, hi, _, e⟩ | ⟨i, hi, _, e⟩)
    · rw [← e, getElem!_pos held i hi]; exact List.getElem_mem hi
    · rw [← e, getElem!_pos held i hi]; exact List.getElem_mem hi
theorem ne_w {s : Str} (h : s ∈ kinds.map (·.2)) : cmpD .ne (.lst [.str s]) (.lst [.str s]) st = .ok false st := by
  have hps : ∀ x ∈ kinds.map (·.2), PyData.strOk x = true := by decide +kernel
  rw [c_ne_ll _ _ (by rw [fitL_cons, fit_str, hps _ h, fitL_nil]; rfl) (by rw [fitL_cons, fit_str, hps _ h, fitL_nil]; rfl), eqvL_cc, eqv_str, eqvL_nn, decide_eq_true rfl]; rfl
section
variable {n h w : Nat} {b : Bool} {lot held full : List Nat} {os : List (Option Int)} {od wr : D} {x0 x1 x2 x3 x4 x5 x6 x7 x8 x9 x10 x11 x12 x13 x14 x15 x16 x17 x18 x19 x20 x21 : Option D}
theorem st_9 (hm : MindOk n os) (hb : Bnd os 0 6000) (hl : LotOk n full) (hne : full ≠ []) : evS (LF k) (L_law_b9.nth 9) [x0, some (.ref h), x2, some (.int (n : Int)), x4, x5, x6, x7, x8, some (.int ((2 ^ n : Nat) : Int)), some (nrD b), some (.tup (lot.map nD)), some (.tup (held.map nD)), some (.int (w : Int)), some (mindD n os), some (.tup (full.map nD)), x16, x17, x18, x19, x20, x21] st = .ok .nx [x0, some (.ref h), x2, some (.int (n : Int)), x4, x5, some (mindD n (rawK b full os)), x7, x8, some (.int ((2 ^ n : Nat) : Int)), some (nrD b), some (.tup (lot.map nD)), some (.tup (held.map nD)), some (.int (w : Int)), some (mindD n os), some (.tup (full.map nD)), x16, x17, x18, x19, x20, x21] st := by
  have e := kept_up_ok (sub := sb) (k := k + 14) (m := false) (st := st) (b := b) hm hb hl hne
  rw [L_law_b9]
  rw [mindD_ap, mindD_ap] at e ⊢
  simp_arith [e]
theorem heldW_lot (hm : MindOk n os) : LotOk n (heldW os) := ⟨List.pairwise_lt_range.filter _, fun w hw => by rw [← hm.len]; exact List.mem_range.mp (List.mem_filter.mp hw).1⟩
theorem st_10 {N : Nat} (hn : n ≤ 4) (hm : MindOk n os) (hb : Bnd os 0 6000) (hl : LotOk n full) (hne : full ≠ []) (hs : st[N]? = some (.lst ((rawK b full os).map oD))) : evS (LF k) (L_law_b9.nth 10) [x0, some (.ref h), x2, some (.int (n : Int)), some (.ref N), x5, some (mindD n (rawK b full os)), x7, x8, some (.int ((2 ^ n : Nat) : Int)), some (nrD b), some (.tup (lot.map nD)), some (.tup (held.map nD)), some (.int (w : Int)), some (mindD n os), some (.tup (full.map nD)), x16, x17, x18, x19, x20, x21] st = .ok .nx [x0, some (.ref h), x2, some (.int (n : Int)), some (.ref N), x5, some (mindD n (rawK b full os)), x7, x8, some (.int ((2 ^ n : Nat) : Int)), some (nrD b), some (.tup (lot.map nD)), some (.tup (held.map nD)), some (.int (w : Int)), some (mindD n os), some (.tup (full.map nD)), x16, x17, x18, x19, x20, x21] st := by
  obtain ⟨q1, _, q3, q4⟩ := kept_math (b := b) hm hb hl hne
  have rl := q3.le
  have hle := hm.le
  have e1 := law_settled_ok (sub := sb) (k := k + 19) (st := st) (m := false) (x := .ref N) (src_ref hs) rfl (chk_ref hs) (by omega) q1
  rw [low_0] at e1
  have e2 := kept_mind (sub := sb) (k := k + 17) (m := false) (st := st) (n := n) (os := rawK b full os) (by omega)
  have e3 := held_lot_ok (sub := sb) (k := k + 15) (m := false) (st := st) q3
  rw [q4] at e3
  have e4 := law_held_ok (sub := sb) (k := k + 19) (m := false) (st := st) (n := n) (os := os) (by omega)
  have hh := heldW_lot hm
  have e5 := law_moved_ok (sub := sb) (k := k + 17) (m := false) (st := st) (b := b) hn hh.2 (lot16 hn hh) hl
  have ne {st : Store} : cmpD .ne (.tup ((movedF b (heldW os) full).map nD)) (.tup ((movedF b (heldW os) full).map nD)) st = .ok false st := by
    rw [c_ne_tt _ _ (fitL_nD _ _) (fitL_nD _ _), eqvL_nD, decide_eq_true rfl]; rfl
  rw [L_law_b9]
  rw [mindD_ap, mindD_ap] at *
  simp_arith [e1, e2, e3, e4, e5, ne]
theorem st_11 (hn : n ≤ 4) (hh : HandAt st h) (hl : LotOk n held) : ∃ (vs : List Nat) (s1 : Store), vs.length = held.length ∧ (∀ v ∈ vs, v < 2) ∧ Upd h st s1 ∧ evS (LF k) (L_law_b9.nth 11) [x0, some (.ref h), x2, some (.int (n : Int)), x4, x5, x6, x7, x8, some (.int ((2 ^ n : Nat) : Int)), some (nrD b), some (.tup (lot.map nD)), some (.tup (held.map nD)), some (.int (w : Int)), some (mindD n os), some (.tup (full.map nD)), x16, x17, x18, x19, x20, x21] st = .ok .nx [x0, some (.ref h), x2, some (.int (n : Int)), x4, x5, x6, some (.tup (vs.map nD)), x8, some (.int ((2 ^ n : Nat) : Int)), some (nrD b), some (.tup (lot.map nD)), some (.tup (held.map nD)), some (.int (w : Int)), some (mindD n os), some (.tup (full.map nD)), x16, x17, x18, x19, x20, x21] s1 := by
  have hle := lot16 hn hl
  obtain ⟨os2, s1, u1, h2, h3⟩ := comp_draw (F := LF k) (ρ := [x0, some (.ref h), x2, some (.int (n : Int)), x4, x5, x6, x7, x8, some (.int ((2 ^ n : Nat) : Int)), some (nrD b), some (.tup (lot.map nD)), some (.tup (held.map nD)), some (.int (w : Int)), some (mindD n os), some (.tup (full.map nD)), x16, x17, x18, x19, x20, x21]) (mm := false) (elt := (.own false "_law_draw" (.cons (.v 1) (.cons (.c (.int 2)) .nil)))) (vs := [5]) (tg := .nm 5) (it := .seq (.v 12)) (c := .nil) (src := ⟨[], held.map nD, false⟩) (st := st) (l := held) (h := h) nD nD (fun a o => ∃ v : Nat, o = some v ∧ v < 2) (by simp_arith) rfl hh (fun _ _ => rfl) (by omega)
    (fun a ha s us => by
      obtain ⟨v, s', hv, us', hs⟩ := draw_ok (sub := sb) (many := 2) us.hand (by decide) (by decide)
      have hs : ∀ m k, runF tab.tb sb (k + 1) m "_law_draw" [.ref h, .int 2] s = .ok (.int ((v : Nat) : Int)) s' := fun m k => hs m k
      exact ⟨some v, s', us', ⟨v, rfl, hv⟩, by simp_arith [hs, Option.map_some, nD_ap]⟩)
  obtain ⟨vs, h4, h5⟩ := h2.some
  rw [h5] at h3
  have hvl := h4.len
  have c4 : evE (LF k) L_law_c4 [x0, some (.ref h), x2, some (.int (n : Int)), x4, x5, x6, x7, x8, some (.int ((2 ^ n : Nat) : Int)), some (nrD b), some (.tup (lot.map nD)), some (.tup (held.map nD)), some (.int (w : Int)), some (mindD n os), some (.tup (full.map nD)), x16, x17, x18, x19, x20, x21] st = .ok (.lst (vs.map nD)) s1 := by
    rw [newL_f (by rw [List.length_map]; omega)] at h3
    exact h3
  refine ⟨vs, s1, hvl, fun v hv => ?_, u1, ?_⟩
  · obtain ⟨a, _, e⟩ := h4.mem v hv
    exact e
  · rw [L_law_b9]
    simp_arith [c4]
theorem st_12 {vs : List Nat} (hn : n ≤ 4) (hl : LotOk n held) (hv : vs.length = held.length) : evS (LF k) (L_law_b9.nth 12) [x0, some (.ref h), x2, some (.int (n : Int)), x4, x5, x6, some (.tup (vs.map nD)), x8, some (.int ((2 ^ n : Nat) : Int)), some (nrD b), some (.tup (lot.map nD)), some (.tup (held.map nD)), some (.int (w : Int)), some (mindD n os), some (.tup (full.map nD)), x16, x17, x18, x19, x20, x21] st = .ok .nx [x0, some (.ref h), x2, some (.int (n : Int)), x4, x5, x6, some (.tup (vs.map nD)), x8, some (.int ((2 ^ n : Nat) : Int)), some (nrD b), some (.tup (lot.map nD)), some (.tup (held.map nD)), some (.int (w : Int)), some (mindD n os), some (.tup (full.map nD)), x16, some (.tup ((pick vs held 0).map nD)), some (.tup ((pick vs held 1).map nD)), x19, x20, x21] st := by
  have hle := lot16 hn hl
  have r1 {st : Store} : rangeSrc [.int ((held.length : Nat) : Int)] st = .ok ⟨[], (List.range held.length).map nD, true⟩ st := rng1 _ (by omega)
  have pl (c : Nat) : (pick vs held c).length ≤ 16 := lot16 hn (pick_lot hl)
  have cc (c : Nat) (cE : E) (hc : cE = .c (.int (c : Int))) : evE (LF k) (.comp false (.ix (.v 12) (.v 21)) [21] (.nm 21) (.rng (.cons (.bi false .len (.cons (.v 12) .nil)) .nil)) (.cons (.cmp .eq (.ix (.v 7) (.v 21)) cE) .nil)) [x0, some (.ref h), x2, some (.int (n : Int)), x4, x5, x6, some (.tup (vs.map nD)), x8, some (.int ((2 ^ n : Nat) : Int)), some (nrD b), some (.tup (lot.map nD)), some (.tup (held.map nD)), some (.int (w : Int)), some (mindD n os), some (.tup (full.map nD)), x16, x17, x18, x19, x20, x21] st = .ok (.lst ((pick vs held c).map nD)) st := by
    subst hc
    refine comp_f nD (fun i => decide (vs[i]! = c)) (fun i => held[i]!) nD (src := ⟨[], (List.range held.length).map nD, true⟩) (by simp_arith [r1]) rfl rfl (by simp; omega) (fun i hi => ?_)
    have hi := List.mem_range.mp hi
    have z : decide (((vs[i]! : Nat) : Int) = (c : Int)) = decide (vs[i]! = c) := decide_eq_decide.mpr (by omega)
    have z2 {st : Store} : getIx (.tup (vs.map nD)) (.int (i : Int)) st = .ok (.int ((vs[i]! : Nat) : Int)) st := by
      rw [ix_tM (by omega) (by omega), Int.toNat_natCast, nD_ap]
    simp_arith [z2, z]
  have c5 : evE (LF k) L_law_c5 [x0, some (.ref h), x2, some (.int (n : Int)), x4, x5, x6, some (.tup (vs.map nD)), x8, some (.int ((2 ^ n : Nat) : Int)), some (nrD b), some (.tup (lot.map nD)), some (.tup (held.map nD)), some (.int (w : Int)), some (mindD n os), some (.tup (full.map nD)), x16, x17, x18, x19, x20, x21] st = .ok (.lst ((pick vs held 0).map nD)) st := cc 0 _ rfl
  have c6 : evE (LF k) L_law_c6 [x0, some (.ref h), x2, some (.int (n : Int)), x4, x5, x6, some (.tup (vs.map nD)), x8, some (.int ((2 ^ n : Nat) : Int)), some (nrD b), some (.tup (lot.map nD)), some (.tup (held.map nD)), some (.int (w : Int)), some (mindD n os), some (.tup (full.map nD)), x16, x17, x18, x19, x20, x21] st = .ok (.lst ((pick vs held 1).map nD)) st := cc 1 _ rfl
  have p0 := pl 0
  have p1 := pl 1
  rw [L_law_b9]
  simp_arith [c5, c6]
theorem st_13 {vs : List Nat} (h1 : 1 ≤ n) (hn : n ≤ 4) (hl : LotOk n lot) (hh : LotOk n held) (hv : vs.length = held.length) (hv2 : ∀ v ∈ vs, v < 2) : evS (LF k) (L_law_b9.nth 13) [x0, some (.ref h), x2, some (.int (n : Int)), x4, x5, x6, x7, x8, some (.int ((2 ^ n : Nat) : Int)), some (nrD b), some (.tup (lot.map nD)), some (.tup (held.map nD)), some (.int (w : Int)), some (mindD n os), some (.tup (full.map nD)), x16, some (.tup ((pick vs held 0).map nD)), some (.tup ((pick vs held 1).map nD)), x19, x20, x21] st = .ok .nx [x0, some (.ref h), x2, some (.int (n : Int)), x4, x5, x6, x7, x8, some (.int ((2 ^ n : Nat) : Int)), some (nrD b), some (.tup (lot.map nD)), some (.tup (held.map nD)), some (.int (w : Int)), some (mindD n os), some (.tup (full.map nD)), x16, some (.tup ((pick vs held 0).map nD)), some (.tup ((pick vs held 1).map nD)), x19, x20, x21] st := by
  have e0 {st : Store} := moved_ok (sub := sb) (k := k + 14) (m := false) (st := st) (b := b) h1 (by omega) hh hl
  have e1 {st : Store} := moved_ok (sub := sb) (k := k + 14) (m := false) (st := st) (b := b) h1 (by omega) (pick_lot (vs := vs) (c := 0) hh) hl
  have e2 {st : Store} := moved_ok (sub := sb) (k := k + 14) (m := false) (st := st) (b := b) h1 (by omega) (pick_lot (vs := vs) (c := 1) hh) hl
  have l0 := moved_16 (b := b) (held := held) hn hl
  have l1 := moved_16 (b := b) (held := pick vs held 0) hn hl
  have l2 := moved_16 (b := b) (held := pick vs held 1) hn hl
  have pm := parts_math (b := b) (lot := lot) (pick_all hv hv2)
  have hb : (once (movedF b (pick vs held 0) lot ++ movedF b (pick vs held 1) lot)).length ≤ 16 := once_below fun x hx => by
    rcases List.mem_append.mp hx with hx | hx
    · obtain ⟨w, _, h⟩ := movedF_mem.mp hx
      exact lt16 hn (hl.2 x (nearF_mem h))
    · obtain ⟨w, _, h⟩ := movedF_mem.mp hx
      exact lt16 hn (hl.2 x (nearF_mem h))
  have ss {m : Bool} {st : Store} := b_sortsetT (m := m) (st := st) (l := movedF b (pick vs held 0) lot ++ movedF b (pick vs held 1) lot) (by rw [List.length_append]; omega) (by omega)
  rw [pm, List.map_append] at ss
  have ne {st : Store} : cmpD .ne (.tup ((movedF b held lot).map nD)) (.tup ((movedF b held lot).map nD)) st = .ok false st := by
    rw [c_ne_tt _ _ (fitL_nD _ _) (fitL_nD _ _), eqvL_nD, decide_eq_true rfl]; rfl
  rw [L_law_b9]
  simp_arith [e0, e1, e2, ss, ne]
theorem st_14 (h1 : 1 ≤ n) (hh : HandAt st h) : ∃ (od wr : D) (s1 : Store), od ∈ oddNear ∧ okN 1 wr = true ∧ isLotD (2 ^ n) wr = false ∧ Upd h st s1 ∧ evS (LF k) (L_law_b9.nth 14) [x0, some (.ref h), x2, some (.int (n : Int)), x4, x5, x6, x7, x8, some (.int ((2 ^ n : Nat) : Int)), some (nrD b), some (.tup (lot.map nD)), some (.tup (held.map nD)), some (.int (w : Int)), some (mindD n os), some (.tup (full.map nD)), x16, x17, x18, x19, x20, x21] st = .ok .nx [x0, some (.ref h), x2, some (.int (n : Int)), x4, x5, x6, x7, x8, some (.int ((2 ^ n : Nat) : Int)), some (nrD b), some (.tup (lot.map nD)), some (.tup (held.map nD)), some (.int (w : Int)), some (mindD n os), some (.tup (full.map nD)), x16, x17, x18, some od, some wr, x21] s1 := by
  obtain ⟨od, s1, q1, u1, r1⟩ := some_ok (sub := sb) (k := k + 18) (m := false) (l := oddNear) hh (by decide) (by decide) (fun d hd => by
    simp only [oddNear, List.mem_cons, List.not_mem_nil, or_false] at hd
    rcases hd with rfl | rfl | rfl | rfl | rfl | rfl <;> rfl)
  obtain ⟨wr, s2, q2, q3, u2, r2⟩ := no_lot_ok (sub := sb) (k := k + 17) (m := false) (n := n) u1.hand h1
  refine ⟨od, wr, s2, q1, q2, q3, u1.trans u2, ?_⟩
  rw [oddNear] at r1
  rw [L_law_b9]
  simp_arith [r1, r2]
theorem kw {p : Str × Str} (h : p ∈ kinds) : p.2 ∈ kinds.map (·.2) := List.mem_map_of_mem h
theorem st_15 (h1 : 1 ≤ n) (hn : n ≤ 4) (hh : HandAt st h) (hl : LotOk n lot) (hhe : LotOk n held) (hw : w < 2 ^ n) (ho : od ∈ oddNear) (hr1 : okN 1 wr = true) (hr2 : isLotD (2 ^ n) wr = false) : ∃ (s1 : Store) (y8 : Option D), Upd h st s1 ∧ evS (LF k) (L_law_b9.nth 15) [x0, some (.ref h), x2, some (.int (n : Int)), x4, x5, x6, x7, x8, some (.int ((2 ^ n : Nat) : Int)), some (nrD b), some (.tup (lot.map nD)), some (.tup (held.map nD)), some (.int (w : Int)), some (mindD n os), some (.tup (full.map nD)), x16, x17, x18, some od, some wr, x21] st = .ok .nx [x0, some (.ref h), x2, some (.int (n : Int)), x4, x5, x6, x7, y8, some (.int ((2 ^ n : Nat) : Int)), some (nrD b), some (.tup (lot.map nD)), some (.tup (held.map nD)), some (.int (w : Int)), some (mindD n os), some (.tup (full.map nD)), x16, x17, x18, some od, some wr, x21] s1 := by
  obtain ⟨ρ2, s2, q1, q2, q3, y8, q4⟩ := forL_inv (e := D.int) (tg := .nm 8) (body := evSs (LF k) L_law_b7) (src := ⟨[], ([0, 1, 2] : List Int).map .int, true⟩)
    (fun pre post ρ s => Upd h st s ∧ (∀ i ∈ post, i = 0 ∨ i = 1 ∨ i = 2) ∧ ∃ y8, ρ = [x0, some (.ref h), x2, some (.int (n : Int)), x4, x5, x6, x7, y8, some (.int ((2 ^ n : Nat) : Int)), some (nrD b), some (.tup (lot.map nD)), some (.tup (held.map nD)), some (.int (w : Int)), some (mindD n os), some (.tup (full.map nD)), x16, x17, x18, some od, some wr, x21])
    [0, 1, 2] [] [x0, some (.ref h), x2, some (.int (n : Int)), x4, x5, x6, x7, x8, some (.int ((2 ^ n : Nat) : Int)), some (nrD b), some (.tup (lot.map nD)), some (.tup (held.map nD)), some (.int (w : Int)), some (mindD n os), some (.tup (full.map nD)), x16, x17, x18, some od, some wr, x21] st ⟨Upd.refl hh, fun i hi => by simpa using hi, x8, rfl⟩
    (fun pre i post ρ s hI => by
      obtain ⟨u, hp, y8, rfl⟩ := hI
      obtain ⟨d, s1, q1, u1, r1⟩ := some_ok (sub := sb) (k := k + 18) (m := false) (l := oddLet) u.hand (by decide) (by decide) (fun d hd => (oddLet_ok d hd).2.2)
      obtain ⟨o1, o2, _⟩ := oddLet_ok d q1
      rw [oddLet] at r1
      obtain ⟨a0, a1, a2⟩ := ev_letters (sub := sb) (k := k + 13) (m := false) (st := s1) o1 o2 (a := .non) (b := .non) (c := .non)
      obtain ⟨b0, _, b2, _⟩ := ev_lot (sub := sb) (k := k + 13) (m := false) (st := s1) (n := n) (held := held) (a := .int (w : Int)) (c := .non) h1 (by omega) hhe hr1 hr2
      obtain ⟨_, b1, _, _⟩ := ev_lot (sub := sb) (k := k + 13) (m := false) (st := s1) (n := n) (held := held) (a := .non) (c := .non) h1 (by omega) hhe hr1 hr2
      obtain ⟨c0, c1, c2⟩ := ev_word (sub := sb) (k := k + 13) (m := false) (st := s1) (n := n) (w := w) (held := held) (lot := lot) h1 (by omega) hw hhe hl ho
      have kL : (("NoLetters" : Str), ("letters" : Str)) ∈ kinds := by simp [kinds]
      have kT : (("NoLot" : Str), ("lot" : Str)) ∈ kinds := by simp [kinds]
      have kW : (("NoWord" : Str), ("word" : Str)) ∈ kinds := by simp [kinds]
      have n1 {st : Store} := ne_w (st := st) (kw kL)
      have n2 {st : Store} := ne_w (st := st) (kw kT)
      have n3 {st : Store} := ne_w (st := st) (kw kW)
      refine ⟨rfl, _, by simp_arith; rfl, ?_⟩
      have hi := hp i List.mem_cons_self
      refine ⟨_, s1, ?_, u.trans u1, fun j hj => hp j (List.mem_cons_of_mem _ hj), some (.int i), rfl⟩
      rw [L_law_b7]
      rcases hi with rfl | rfl | rfl
      · have e1 := ref_0 (m := false) kL a0
        have e2 := ref_0 (m := false) kT b0
        have e3 := ref_0 (m := false) kW c0
        simp_arith [r1, e1, n1, e2, n2, e3, n3]
      · have z : ¬ (1 : Int) = 0 := by decide
        have e1 := ref_1 (m := false) kL a1
        have e2 := ref_1 (m := false) kT b1
        have e3 := ref_1 (m := false) kW c1
        simp_arith [r1, z, e1, n1, e2, n2, e3, n3]
      · have z : ¬ (2 : Int) = 0 := by decide
        have e1 := ref_2 (m := false) (b := .non) kL a2
        have e2 := ref_2 (m := false) (b := .tup (held.map nD)) kT b2
        have e3 := ref_2 (m := false) (b := .tup (held.map nD)) kW c2
        simp_arith [r1, z, e1, n1, e2, n2, e3, n3])
    (fun _ _ _ _ => rfl)
  subst q4
  refine ⟨s2, y8, q2, ?_⟩
  have r2 {st : Store} : rangeSrc [.int 3] st = .ok ⟨[], ([0, 1, 2] : List Int).map .int, true⟩ st := rfl
  rw [L_law_b9, Ss.nth, Ss.nth, Ss.nth, Ss.nth, Ss.nth, Ss.nth, Ss.nth, Ss.nth, Ss.nth, Ss.nth, Ss.nth, Ss.nth, Ss.nth, Ss.nth, Ss.nth, Ss.nth, L_law_f8, s_for]
  simp_arith [r2]
  exact q1
theorem st_16 (h1 : 1 ≤ n) (hn : n ≤ 4) (hh : HandAt st h) (hl : LotOk n lot) (hr1 : okN 1 wr = true) (hr2 : isLotD (2 ^ n) wr = false) : ∃ s1 : Store, Upd h st s1 ∧ evS (LF k) (L_law_b9.nth 16) [x0, some (.ref h), x2, some (.int (n : Int)), x4, x5, x6, x7, x8, some (.int ((2 ^ n : Nat) : Int)), some (nrD b), some (.tup (lot.map nD)), some (.tup (held.map nD)), some (.int (w : Int)), some (mindD n os), some (.tup (full.map nD)), x16, x17, x18, some od, some wr, x21] st = .ok .nx [x0, some (.ref h), x2, some (.int (n : Int)), x4, x5, x6, x7, x8, some (.int ((2 ^ n : Nat) : Int)), some (nrD b), some (.tup (lot.map nD)), some (.tup (held.map nD)), some (.int (w : Int)), some (mindD n os), some (.tup (full.map nD)), x16, x17, x18, some od, some wr, x21] s1 := by
  obtain ⟨d, s1, q1, u1, r1⟩ := some_ok (sub := sb) (k := k + 18) (m := false) (l := oddW n) hh (by show 0 < 5; decide) (by show 5 < _; decide) (fun d hd => (oddW_ok d hd).2.2)
  have kT : (("NoLot" : Str), ("lot" : Str)) ∈ kinds := by simp [kinds]
  have n2 {st : Store} := ne_w (st := st) (kw kT)
  have e1 := ref_0 (m := false) kT (ev_world (sub := sb) (k := k + 13) (m := false) (st := s1) (n := n) (c := .non) h1 (by omega) hl q1)
  have e2 := ref_1 (m := false) kT (ev_lot (sub := sb) (k := k + 13) (m := false) (st := s1) (n := n) (held := []) (a := .tup (lot.map nD)) (c := .non) h1 (by omega) ⟨List.Pairwise.nil, fun _ h => nomatch h⟩ hr1 hr2).2.2.2
  rw [oddW] at r1
  refine ⟨s1, u1, ?_⟩
  rw [L_law_b9]
  simp_arith [r1, e1, n2, e2]
theorem st_17 (h1 : 1 ≤ n) (hn : n ≤ 4) (hh : HandAt st h) (hm : MindOk n os) (hr1 : okN 1 wr = true) (hr2 : isLotD (2 ^ n) wr = false) : ∃ s1 : Store, Upd h st s1 ∧ evS (LF k) (L_law_b9.nth 17) [x0, some (.ref h), x2, some (.int (n : Int)), x4, x5, x6, x7, x8, some (.int ((2 ^ n : Nat) : Int)), some (nrD b), some (.tup (lot.map nD)), some (.tup (held.map nD)), some (.int (w : Int)), some (mindD n os), some (.tup (full.map nD)), x16, x17, x18, some od, some wr, x21] st = .ok .nx [x0, some (.ref h), x2, some (.int (n : Int)), x4, x5, x6, x7, x8, some (.int ((2 ^ n : Nat) : Int)), some (nrD b), some (.tup (lot.map nD)), some (.tup (held.map nD)), some (.int (w : Int)), some (mindD n os), some (.tup (full.map nD)), x16, x17, x18, some od, some wr, x21] s1 := by
  obtain ⟨d, s1, q1, q2, u1, r1⟩ := no_mind_ok (sub := sb) (k := k + 17) (m := false) hh hm
  have kT : (("NoLot" : Str), ("lot" : Str)) ∈ kinds := by simp [kinds]
  have kM : (("NoMind" : Str), ("mind" : Str)) ∈ kinds := by simp [kinds]
  have n1 {st : Store} := ne_w (st := st) (kw kM)
  have n2 {st : Store} := ne_w (st := st) (kw kT)
  have e1 := ref_3 (m := false) (b := .non) kM (ev_mind (sub := sb) (k := k + 13) (m := false) (st := s1) (a := .non) (c := .non) q1 q2)
  have e2 := ref_3 (m := false) (b := .non) kT (ev_kl (sub := sb) (k := k + 13) (m := false) (st := s1) (c := .non) hm hr1 hr2)
  refine ⟨s1, u1, ?_⟩
  rw [L_law_b9]
  rw [mindD_ap] at *
  simp_arith [r1, e1, n1, n2, e2]
theorem st_18 (h1 : 1 ≤ n) (hn : n ≤ 4) (hm : MindOk n os) (hl : LotOk n full) (ho : od ∈ oddNear) : evS (LF k) (L_law_b9.nth 18) [x0, some (.ref h), x2, some (.int (n : Int)), x4, x5, x6, x7, x8, some (.int ((2 ^ n : Nat) : Int)), some (nrD b), some (.tup (lot.map nD)), some (.tup (held.map nD)), some (.int (w : Int)), some (mindD n os), some (.tup (full.map nD)), x16, x17, x18, some od, some wr, x21] st = .ok .nx [x0, some (.ref h), x2, some (.int (n : Int)), x4, x5, x6, x7, x8, some (.int ((2 ^ n : Nat) : Int)), some (nrD b), some (.tup (lot.map nD)), some (.tup (held.map nD)), some (.int (w : Int)), some (mindD n os), some (.tup (full.map nD)), x16, x17, x18, some od, some wr, x21] st := by
  have kW : (("NoWord" : Str), ("word" : Str)) ∈ kinds := by simp [kinds]
  have kO : (("NoWorld" : Str), ("world" : Str)) ∈ kinds := by simp [kinds]
  have n1 {st : Store} := ne_w (st := st) (kw kW)
  have n2 {st : Store} := ne_w (st := st) (kw kO)
  have e1 := ref_3 (m := false) (b := .non) kW (ev_kw (sub := sb) (k := k + 13) (m := false) (st := st) hm hl ho)
  have e2 := ref_3 (m := false) (b := .non) kO (ev_k0 (sub := sb) (k := k + 13) (m := false) (st := st) (b := b) hm)
  rw [L_law_b9]
  rw [mindD_ap] at *
  simp_arith [e1, n1, n2, e2]
end
end K66
namespace K66
open PySem PI
variable {k : Nat} {st : Store}
theorem b9_split : L_law_b9 = .cons (L_law_b9.nth 0) (.cons (L_law_b9.nth 1) (.cons (L_law_b9.nth 2) (.cons (L_law_b9.nth 3) (.cons (L_law_b9.nth 4) (.cons (L_law_b9.nth 5) (.cons (L_law_b9.nth 6) (.cons (L_law_b9.nth 7) (.cons (L_law_b9.nth 8) (.cons (L_law_b9.nth 9) (.cons (L_law_b9.nth 10) (.cons (L_law_b9.nth 11) (.cons (L_law_b9.nth 12) (.cons (L_law_b9.nth 13) (.cons (L_law_b9.nth 14) (.cons (L_law_b9.nth 15) (.cons (L_law_b9.nth 16) (.cons (L_law_b9.nth 17) (.cons (L_law_b9.nth 18) .nil)))))))))))))))))) := rfl
theorem turn_ok {h : Nat} {x0 x2 x3 x4 x5 x6 x7 x8 x9 x10 x11 x12 x13 x14 x15 x16 x17 x18 x19 x20 x21 : Option D} (hh : HandAt st h) : ∃ (s' : Store) (y3 y4 y5 y6 y7 y8 y9 y10 y11 y12 y13 y14 y15 y16 y17 y18 y19 y20 y21 : Option D), Grow h st s' ∧ evSs (LF k) L_law_b9 [x0, some (.ref h), x2, x3, x4, x5, x6, x7, x8, x9, x10, x11, x12, x13, x14, x15, x16, x17, x18, x19, x20, x21] st = .ok .nx [x0, some (.ref h), x2, y3, y4, y5, y6, y7, y8, y9, y10, y11, y12, y13, y14, y15, y16, y17, y18, y19, y20, y21] s' := by
  obtain ⟨v, s0, hv, u0, r0⟩ := st_0 (k := k) (x0 := x0) (x2 := x2) (x3 := x3) (x4 := x4) (x5 := x5) (x6 := x6) (x7 := x7) (x8 := x8) (x9 := x9) (x10 := x10) (x11 := x11) (x12 := x12) (x13 := x13) (x14 := x14) (x15 := x15) (x16 := x16) (x17 := x17) (x18 := x18) (x19 := x19) (x20 := x20) (x21 := x21) hh
  have hn : 1 + v ≤ 4 := by omega
  have h1 : 1 ≤ 1 + v := by omega
  generalize 1 + v = n at *
  obtain ⟨b, s1, u1, r1⟩ := st_1 (k := k) (n := n) (x0 := x0) (x2 := x2) (x4 := x4) (x5 := x5) (x6 := x6) (x7 := x7) (x8 := x8) (x9 := x9) (x10 := x10) (x11 := x11) (x12 := x12) (x13 := x13) (x14 := x14) (x15 := x15) (x16 := x16) (x17 := x17) (x18 := x18) (x19 := x19) (x20 := x20) (x21 := x21) hn u0.hand
  obtain ⟨lot, held, w, s2, l1, l2, hw, u2, r2⟩ := st_2 (k := k) (n := n) (b := b) (x0 := x0) (x2 := x2) (x4 := x4) (x5 := x5) (x6 := x6) (x7 := x7) (x8 := x8) (x11 := x11) (x12 := x12) (x13 := x13) (x14 := x14) (x15 := x15) (x16 := x16) (x17 := x17) (x18 := x18) (x19 := x19) (x20 := x20) (x21 := x21) hn u1.hand
  have r3 := st_3 (k := k) (st := s2) (h := h) (b := b) (x0 := x0) (x2 := x2) (x4 := x4) (x5 := x5) (x6 := x6) (x7 := x7) (x8 := x8) (x14 := x14) (x15 := x15) (x16 := x16) (x17 := x17) (x18 := x18) (x19 := x19) (x20 := x20) (x21 := x21) h1 hn l1 l2 hw
  have r4 := st_4 (k := k) (st := s2) (h := h) (w := w) (b := b) (x0 := x0) (x2 := x2) (x4 := x4) (x5 := x5) (x6 := x6) (x7 := x7) (x8 := x8) (x14 := x14) (x15 := x15) (x16 := x16) (x17 := x17) (x18 := x18) (x19 := x19) (x20 := x20) (x21 := x21) h1 hn l1 l2
  have r5 := st_5 (k := k) (st := s2) (h := h) (w := w) (b := b) (held := held) (x0 := x0) (x2 := x2) (x4 := x4) (x5 := x5) (x6 := x6) (x7 := x7) (x8 := x8) (x14 := x14) (x15 := x15) (x16 := x16) (x17 := x17) (x18 := x18) (x19 := x19) (x20 := x20) (x21 := x21) h1 hn l1
  obtain ⟨os, full, s6, m1, m2, l3, l4, u6, r6⟩ := st_6 (k := k) (n := n) (b := b) (w := w) (lot := lot) (held := held) (x0 := x0) (x2 := x2) (x4 := x4) (x5 := x5) (x6 := x6) (x7 := x7) (x8 := x8) (x14 := x14) (x15 := x15) (x16 := x16) (x17 := x17) (x18 := x18) (x19 := x19) (x20 := x20) (x21 := x21) h1 hn u2.hand
  have r7 := st_7 (k := k) (st := s6) (h := h) (n := n) (b := b) (w := w) (lot := lot) (held := held) (os := os) (full := full) (x0 := x0) (x2 := x2) (x4 := x4) (x5 := x5) (x6 := x6) (x7 := x7) (x8 := x8) (x16 := x16) (x17 := x17) (x18 := x18) (x19 := x19) (x20 := x20) (x21 := x21) hn
  have hN : (s6 ++ [O.lst [.non]]).length = s6.length + 1 := by rw [List.length_append]; rfl
  obtain ⟨y5, y16, r8⟩ := st_8 (k := k) (h := h) (b := b) (w := w) (lot := lot) (held := held) (x0 := x0) (x2 := x2) (x5 := x5) (x6 := x6) (x7 := x7) (x8 := x8) (x16 := x16) (x17 := x17) (x18 := x18) (x19 := x19) (x20 := x20) (x21 := x21) hN hn m1 l3
  have g8 : Grow h st ((s6 ++ [.lst [.non]]) ++ [.lst ((rawK b full os).map oD)]) := ((((((Grow.refl hh).upd u0).upd u1).upd u2).upd u6).push _).push _
  have hs : ((s6 ++ [O.lst [.non]]) ++ [.lst ((rawK b full os).map oD)])[s6.length + 1]? = some (.lst ((rawK b full os).map oD)) := by rw [← hN]; exact at_end _ _
  generalize hS : ((s6 ++ [O.lst [.non]]) ++ [.lst ((rawK b full os).map oD)]) = S8 at *
  have r9 := st_9 (k := k) (st := S8) (h := h) (b := b) (w := w) (lot := lot) (held := held) (x0 := x0) (x2 := x2) (x4 := some (.ref (s6.length + 1))) (x5 := y5) (x6 := x6) (x7 := x7) (x8 := x8) (x16 := y16) (x17 := x17) (x18 := x18) (x19 := x19) (x20 := x20) (x21 := x21) m1 m2 l3 l4
  have r10 := st_10 (k := k) (st := S8) (h := h) (b := b) (w := w) (lot := lot) (held := held) (x0 := x0) (x2 := x2) (x5 := y5) (x7 := x7) (x8 := x8) (x16 := y16) (x17 := x17) (x18 := x18) (x19 := x19) (x20 := x20) (x21 := x21) hn m1 m2 l3 l4 hs
  obtain ⟨vs, s11, v1, v2, u11, r11⟩ := st_11 (k := k) (st := S8) (h := h) (b := b) (w := w) (lot := lot) (held := held) (os := os) (full := full) (x0 := x0) (x2 := x2) (x4 := some (.ref (s6.length + 1))) (x5 := y5) (x6 := some (mindD n (rawK b full os))) (x7 := x7) (x8 := x8) (x16 := y16) (x17 := x17) (x18 := x18) (x19 := x19) (x20 := x20) (x21 := x21) hn g8.hand l2
  have r12 := st_12 (k := k) (st := s11) (h := h) (b := b) (w := w) (lot := lot) (os := os) (full := full) (x0 := x0) (x2 := x2) (x4 := some (.ref (s6.length + 1))) (x5 := y5) (x6 := some (mindD n (rawK b full os))) (x8 := x8) (x16 := y16) (x17 := x17) (x18 := x18) (x19 := x19) (x20 := x20) (x21 := x21) hn l2 v1
  have r13 := st_13 (k := k) (st := s11) (h := h) (b := b) (w := w) (os := os) (full := full) (x0 := x0) (x2 := x2) (x4 := some (.ref (s6.length + 1))) (x5 := y5) (x6 := some (mindD n (rawK b full os))) (x7 := some (.tup (vs.map nD))) (x8 := x8) (x16 := y16) (x19 := x19) (x20 := x20) (x21 := x21) h1 hn l1 l2 v1 v2
  obtain ⟨od, wr, s14, o1, o2, o3, u14, r14⟩ := st_14 (k := k) (st := s11) (b := b) (w := w) (os := os) (lot := lot) (held := held) (full := full) (x0 := x0) (x2 := x2) (x4 := some (.ref (s6.length + 1))) (x5 := y5) (x6 := some (mindD n (rawK b full os))) (x7 := some (.tup (vs.map nD))) (x8 := x8) (x16 := y16) (x17 := some (.tup ((pick vs held 0).map nD))) (x18 := some (.tup ((pick vs held 1).map nD))) (x19 := x19) (x20 := x20) (x21 := x21) h1 u11.hand
  obtain ⟨s15, y8, u15, r15⟩ := st_15 (k := k) (st := s14) (b := b) (os := os) (full := full) (x0 := x0) (x2 := x2) (x4 := some (.ref (s6.length + 1))) (x5 := y5) (x6 := some (mindD n (rawK b full os))) (x7 := some (.tup (vs.map nD))) (x8 := x8) (x16 := y16) (x17 := some (.tup ((pick vs held 0).map nD))) (x18 := some (.tup ((pick vs held 1).map nD))) (x21 := x21) h1 hn u14.hand l1 l2 hw o1 o2 o3
  obtain ⟨s16, u16, r16⟩ := st_16 (k := k) (st := s15) (b := b) (w := w) (held := held) (os := os) (full := full) (od := od) (x0 := x0) (x2 := x2) (x4 := some (.ref (s6.length + 1))) (x5 := y5) (x6 := some (mindD n (rawK b full os))) (x7 := some (.tup (vs.map nD))) (x8 := y8) (x16 := y16) (x17 := some (.tup ((pick vs held 0).map nD))) (x18 := some (.tup ((pick vs held 1).map nD))) (x21 := x21) h1 hn u15.hand l1 o2 o3
  obtain ⟨s17, u17, r17⟩ := st_17 (k := k) (st := s16) (b := b) (w := w) (held := held) (lot := lot) (full := full) (od := od) (x0 := x0) (x2 := x2) (x4 := some (.ref (s6.length + 1))) (x5 := y5) (x6 := some (mindD n (rawK b full os))) (x7 := some (.tup (vs.map nD))) (x8 := y8) (x16 := y16) (x17 := some (.tup ((pick vs held 0).map nD))) (x18 := some (.tup ((pick vs held 1).map nD))) (x21 := x21) h1 hn u16.hand m1 o2 o3
  have r18 := st_18 (k := k) (st := s17) (h := h) (b := b) (w := w) (held := held) (lot := lot) (wr := wr) (x0 := x0) (x2 := x2) (x4 := some (.ref (s6.length + 1))) (x5 := y5) (x6 := some (mindD n (rawK b full os))) (x7 := some (.tup (vs.map nD))) (x8 := y8) (x16 := y16) (x17 := some (.tup ((pick vs held 0).map nD))) (x18 := some (.tup ((pick vs held 1).map nD))) (x21 := x21) h1 hn m1 l3 o1
  refine ⟨s17, some (.int (n : Int)), some (.ref (s6.length + 1)), y5, some (mindD n (rawK b full os)), some (.tup (vs.map nD)), y8, some (.int ((2 ^ n : Nat) : Int)), some (nrD b), some (.tup (lot.map nD)), some (.tup (held.map nD)), some (.int (w : Int)), some (mindD n os), some (.tup (full.map nD)), y16, some (.tup ((pick vs held 0).map nD)), some (.tup ((pick vs held 1).map nD)), od, wr, x21, (((((g8.upd u11).upd u14).upd u15).upd u16).upd u17), ?_⟩
  rw [b9_split]
  simp -implicitDefEqProofs only [ss_cons, ss_nil, r0, r1, r2, r3, r4, r5, r6, r7, r8, r9, r10, r11, r12, r13, r14, r15, r16, r17, r18, nx_ok]
theorem math (ns : List Int) (hns : ns.length ≤ 63) : ∃ st, runF tab.tb sb 40 false "law" [.scr ns] [] = .ok (.bl true) st := by
  obtain ⟨s0, hh, hl, r0⟩ := law_hand_ok (sub := sb) (k := 38) hns
  obtain ⟨ρ2, s3, h1, h2, y2, y3, y4, y5, y6, y7, y8, y9, y10, y11, y12, y13, y14, y15, y16, y17, y18, y19, y20, y21, h4⟩ := forL_inv (e := nD) (tg := .nm 2) (body := evSs (LF 19) L_law_b9) (src := ⟨[], (List.range 4).map nD, true⟩)
    (fun pre post ρ s => Grow 0 s0 s ∧ ∃ y2 y3 y4 y5 y6 y7 y8 y9 y10 y11 y12 y13 y14 y15 y16 y17 y18 y19 y20 y21, ρ = [some (.scr ns), some (.ref 0), y2, y3, y4, y5, y6, y7, y8, y9, y10, y11, y12, y13, y14, y15, y16, y17, y18, y19, y20, y21])
    (List.range 4) [] [some (.scr ns), some (.ref 0), none, none, none, none, none, none, none, none, none, none, none, none, none, none, none, none, none, none, none, none] s0 ⟨Grow.refl hh, none, none, none, none, none, none, none, none, none, none, none, none, none, none, none, none, none, none, none, none, rfl⟩
    (fun pre i post ρ s hI => by
      obtain ⟨u, y2, y3, y4, y5, y6, y7, y8, y9, y10, y11, y12, y13, y14, y15, y16, y17, y18, y19, y20, y21, rfl⟩ := hI
      refine ⟨rfl, _, by simp_arith; rfl, ?_⟩
      obtain ⟨s', z3, z4, z5, z6, z7, z8, z9, z10, z11, z12, z13, z14, z15, z16, z17, z18, z19, z20, z21, u', e'⟩ := turn_ok (k := 19) (st := s) (h := 0) (x0 := some (.scr ns)) (x2 := some (nD i)) (x3 := y3) (x4 := y4) (x5 := y5) (x6 := y6) (x7 := y7) (x8 := y8) (x9 := y9) (x10 := y10) (x11 := y11) (x12 := y12) (x13 := y13) (x14 := y14) (x15 := y15) (x16 := y16) (x17 := y17) (x18 := y18) (x19 := y19) (x20 := y20) (x21 := y21) u.hand
      exact ⟨_, s', e', ⟨u.lt, Nat.le_trans u.le u'.le, fun j hj hj0 => by rw [u'.old j (Nat.lt_of_lt_of_le hj u.le) hj0, u.old j hj hj0], u'.hand⟩, some (nD i), z3, z4, z5, z6, z7, z8, z9, z10, z11, z12, z13, z14, z15, z16, z17, z18, z19, z20, z21, rfl⟩)
    (fun _ _ _ hI => rfl)
  subst h4
  have r4 {st : Store} : rangeSrc [.int 4] st = .ok ⟨[], (List.range 4).map nD, true⟩ st := rng1 4 (by decide)
  have f10 : evS (LF 19) L_law_f10 [some (.scr ns), some (.ref 0), none, none, none, none, none, none, none, none, none, none, none, none, none, none, none, none, none, none, none, none] s0 = .ok .nx [some (.scr ns), some (.ref 0), y2, y3, y4, y5, y6, y7, y8, y9, y10, y11, y12, y13, y14, y15, y16, y17, y18, y19, y20, y21] s3 := by
    rw [L_law_f10, s_for]
    simp_arith [r4, h1]
  have kp : Kept [] s3 := ⟨Nat.zero_le _, fun i hi => absurd hi (Nat.not_lt_zero _)⟩
  refine ⟨s3.take 0, ?_⟩
  rw [run_eq tb_law rfl (by decide), L_law]
  have bk := back_d (m := false) kp (nr_bl true)
  have bk : back false [] s3 (.bl true) = .ok (.bl true) (s3.take 0) := bk
  simp_arith [r0, f10, bk]
end K66
set_option Elab.async false
set_option linter.all false
set_option maxRecDepth 100000
set_option maxHeartbeats 0
namespace K66
open PySem PySem.Spec PyProof.Rows L2 PI
theorem b0 : BindP e0 := fun _ _ _ _ _ _ us hl => match us, hl with | [_], _ => rfl
theorem b1 : BindP e1 := fun _ _ _ _ _ _ us hl => match us, hl with | [_, _, _], _ => rfl
theorem b2 : BindP e2 := fun _ _ _ _ _ _ us hl => match us, hl with | [_], _ => rfl
theorem b3 : BindP e3 := fun _ _ _ _ _ _ us hl => match us, hl with | [_], _ => rfl
theorem b4 : BindP e4 := fun _ _ _ _ _ _ us hl => match us, hl with | [_, _], _ => rfl
theorem b5 : BindP e5 := fun _ _ _ _ _ _ us hl => match us, hl with | [_, _], _ => rfl
theorem b6 : BindP e6 := fun _ _ _ _ _ _ us hl => match us, hl with | [_], _ => rfl
theorem b7 : BindP e7 := fun _ _ _ _ _ _ us hl => match us, hl with | [_], _ => rfl
theorem b8 : BindP e8 := fun _ _ _ _ _ _ us hl => match us, hl with | [_], _ => rfl
theorem b9 : BindP e9 := fun _ _ _ _ _ _ us hl => match us, hl with | [_], _ => rfl
theorem b10 : BindP e10 := fun _ _ _ _ _ _ us hl => match us, hl with | [_], _ => rfl
theorem b11 : BindP e11 := fun _ _ _ _ _ _ us hl => match us, hl with | [_, _], _ => rfl
theorem b12 : BindP e12 := fun _ _ _ _ _ _ us hl => match us, hl with | [_, _], _ => rfl
theorem b13 : BindP e13 := fun _ _ _ _ _ _ us hl => match us, hl with | [_], _ => rfl
theorem b14 : BindP e14 := fun _ _ _ _ _ _ us hl => match us, hl with | [_, _, _, _], _ => rfl
theorem b15 : BindP e15 := fun _ _ _ _ _ _ us hl => match us, hl with | [_, _, _], _ => rfl
theorem b16 : BindP e16 := fun _ _ _ _ _ _ us hl => match us, hl with | [_, _, _, _], _ => rfl
theorem b17 : BindP e17 := fun _ _ _ _ _ _ us hl => match us, hl with | [_, _, _, _], _ => rfl
theorem b18 : BindP e18 := fun _ _ _ _ _ _ us hl => match us, hl with | [_, _, _], _ => rfl
theorem b19 : BindP e19 := fun _ _ _ _ _ _ us hl => match us, hl with | [_, _, _], _ => rfl
theorem b20 : BindP e20 := fun _ _ _ _ _ _ us hl => match us, hl with | [_, _, _], _ => rfl
theorem b21 : BindP e21 := fun _ _ _ _ _ _ us hl => match us, hl with | [_, _, _], _ => rfl
theorem b22 : BindP e22 := fun _ _ _ _ _ _ us hl => match us, hl with | [_, _, _, _], _ => rfl
theorem b23 : BindP e23 := fun _ _ _ _ _ _ us hl => match us, hl with | [_], _ => rfl
theorem b24 : BindP e24 := fun _ _ _ _ _ _ us hl => match us, hl with | [_, _], _ => rfl
theorem b25 : BindP e25 := fun _ _ _ _ _ _ us hl => match us, hl with | [_, _], _ => rfl
theorem b26 : BindP e26 := fun _ _ _ _ _ _ us hl => match us, hl with | [_, _], _ => rfl
theorem b27 : BindP e27 := fun _ _ _ _ _ _ us hl => match us, hl with | [_, _], _ => rfl
theorem b28 : BindP e28 := fun _ _ _ _ _ _ us hl => match us, hl with | [_, _], _ => rfl
theorem b29 : BindP e29 := fun _ _ _ _ _ _ us hl => match us, hl with | [_], _ => rfl
theorem b30 : BindP e30 := fun _ _ _ _ _ _ us hl => match us, hl with | [_, _], _ => rfl
theorem b31 : BindP e31 := fun _ _ _ _ _ _ us hl => match us, hl with | [_], _ => rfl
theorem b32 : BindP e32 := fun _ _ _ _ _ _ us hl => match us, hl with | [_, _], _ => rfl
theorem b33 : BindP e33 := fun _ _ _ _ _ _ us hl => match us, hl with | [_, _], _ => rfl
theorem b34 : BindP e34 := fun _ _ _ _ _ _ us hl => match us, hl with | [_, _], _ => rfl
theorem b35 : BindP e35 := fun _ _ _ _ _ _ us hl => match us, hl with | [_, _, _], _ => rfl
theorem b36 : BindP e36 := fun _ _ _ _ _ _ us hl => match us, hl with | [_, _, _, _], _ => rfl
theorem b37 : BindP e37 := fun _ _ _ _ _ _ us hl => match us, hl with | [_, _, _, _], _ => rfl
theorem b38 : BindP e38 := fun _ _ _ _ _ _ us hl => match us, hl with | [_, _, _, _], _ => rfl
theorem b39 : BindP e39 := fun _ _ _ _ _ _ us hl => match us, hl with | [_, _, _, _, _], _ => rfl
theorem b40 : BindP e40 := fun _ _ _ _ _ _ us hl => match us, hl with | [_, _, _], _ => rfl
theorem b41 : BindP e41 := fun _ _ _ _ _ _ us hl => match us, hl with | [_, _, _, _, _], _ => rfl
theorem b42 : BindP e42 := fun _ _ _ _ _ _ us hl => match us, hl with | [_], _ => rfl
theorem bi : ∀ e ∈ tab.fs, BindP e := List.forall_mem_cons.mpr <| And.intro b0 <| List.forall_mem_cons.mpr <| And.intro b1 <| List.forall_mem_cons.mpr <| And.intro b2 <| List.forall_mem_cons.mpr <| And.intro b3 <| List.forall_mem_cons.mpr <| And.intro b4 <| List.forall_mem_cons.mpr <| And.intro b5 <| List.forall_mem_cons.mpr <| And.intro b6 <| List.forall_mem_cons.mpr <| And.intro b7 <| List.forall_mem_cons.mpr <| And.intro b8 <| List.forall_mem_cons.mpr <| And.intro b9 <| List.forall_mem_cons.mpr <| And.intro b10 <| List.forall_mem_cons.mpr <| And.intro b11 <| List.forall_mem_cons.mpr <| And.intro b12 <| List.forall_mem_cons.mpr <| And.intro b13 <| List.forall_mem_cons.mpr <| And.intro b14 <| List.forall_mem_cons.mpr <| And.intro b15 <| List.forall_mem_cons.mpr <| And.intro b16 <| List.forall_mem_cons.mpr <| And.intro b17 <| List.forall_mem_cons.mpr <| And.intro b18 <| List.forall_mem_cons.mpr <| And.intro b19 <| List.forall_mem_cons.mpr <| And.intro b20 <| List.forall_mem_cons.mpr <| And.intro b21 <| List.forall_mem_cons.mpr <| And.intro b22 <| List.forall_mem_cons.mpr <| And.intro b23 <| List.forall_mem_cons.mpr <| And.intro b24 <| List.forall_mem_cons.mpr <| And.intro b25 <| List.forall_mem_cons.mpr <| And.intro b26 <| List.forall_mem_cons.mpr <| And.intro b27 <| List.forall_mem_cons.mpr <| And.intro b28 <| List.forall_mem_cons.mpr <| And.intro b29 <| List.forall_mem_cons.mpr <| And.intro b30 <| List.forall_mem_cons.mpr <| And.intro b31 <| List.forall_mem_cons.mpr <| And.intro b32 <| List.forall_mem_cons.mpr <| And.intro b33 <| List.forall_mem_cons.mpr <| And.intro b34 <| List.forall_mem_cons.mpr <| And.intro b35 <| List.forall_mem_cons.mpr <| And.intro b36 <| List.forall_mem_cons.mpr <| And.intro b37 <| List.forall_mem_cons.mpr <| And.intro b38 <| List.forall_mem_cons.mpr <| And.intro b39 <| List.forall_mem_cons.mpr <| And.intro b40 <| List.forall_mem_cons.mpr <| And.intro b41 <| List.forall_mem_cons.mpr <| And.intro b42 <| fun _ h => nomatch h
theorem sco : tab.fs.all scB = true := by decide +kernel
def loose_0 : List (PySem.Str) := ["__name__", "MindError", "NoLetters", "NoWorld", "NoLot", "NoMind", "NoWord", "MOST_LETTERS", "is_integer", "is_between", "need_letters", "many_worlds", "is_lot_of", "need_lot", "MOST_RANK", "is_mind", "need_mind", "settled", "held_of", "held_lot", "lesser", "apart", "NEARS", "need_near", "is_less", "nearest_of", "nearest", "moved", "moved_of", "kept_up_of"]
def loose_1 : List (PySem.Str) := ["kept_up", "first_unlike", "nearest_to_both", "_law_hand", "_law_draw", "_law_some", "_law_kept", "_law_lot", "_law_full_lot", "_law_settled", "_law_mind", "_law_held", "_law_no_mind", "_law_no_lot", "_law_lesser", "_law_gap", "_law_nearer", "_law_nearest", "_law_moved", "_law_both", "_law_first", "_law_refusal"]
def loose : List (PySem.Str) := loose_0 ++ loose_1
abbrev R : PySem.W.OpenRow := PySem.W.OpenLaw.row PySem.Challenge.rw_mindsrevised_k66_whole_keeping_up_with_c
abbrev hk : PySem.W.Hook := hookC 4 (tab.fa subL) (tab.fs.map Ent.dfd) tab.gc
def ob (s : PySem.W.SharedT) : He.AlD := obCG 4 (tab.fa subL) (tab.fs.map Ent.dfd) tab.gc (HandSHeadRun.getT s)
theorem ob_eq (s : PySem.W.SharedT) : ob s = hk.obs s.abs := obCG_eq (HandSHeadRun.getT_eq s)
theorem run (w : World) : HandSHeadRun.RunEq R (PySem.W.view R.prog [59]) hk ob 6000 loose w := by
  intro os
  kernel_rfl
end K66
set_option Elab.async false
set_option linter.all false
set_option maxRecDepth 100000
set_option maxHeartbeats 0
open PySem PySem.W PySem.Calls PyProof.Rows PI
theorem K66.join (math : ∀ ns : List Int, ns.length ≤ 63 → ∃ st, runF K66.tab.tb (subOf K66.subL) 40 false "law" [.scr ns] [] = .ok (.bl true) st) : PySem.Challenge.rw_mindsrevised_k66_whole_keeping_up_with_c.Holds := by
  w_on; o_law
  refine HandSHeadRun.head_any (r := OpenLaw.row PySem.Challenge.rw_mindsrevised_k66_whole_keeping_up_with_c) (q := view (OpenLaw.row PySem.Challenge.rw_mindsrevised_k66_whole_keeping_up_with_c).prog [59]) (H := K66.hk) (ob := K66.ob) (M := 6000) (loose := K66.loose) (d := HandSHeadRun.topDef (OpenLaw.row PySem.Challenge.rw_mindsrevised_k66_whole_keeping_up_with_c).prog 59) (kwd := []) K66.ob_eq
    (by kernel_rfl) (fun s => by kernel_rfl) K66.run (by kernel_rfl) (by kernel_rfl) (by kernel_rfl) (by rfl) (by first | assumption | decide +kernel) (by decide +kernel) ⟨rfl, rfl, rfl, rfl, rfl, by decide +kernel⟩ ?hw ?hc
  case hw => w_witness2
  case hc =>
    have en : (HandSHeadRun.topDef (OpenLaw.row PySem.Challenge.rw_mindsrevised_k66_whole_keeping_up_with_c).prog 59).name = ("law" : PySem.Str) := by kernel_rfl
    exact walk_tab (l := PySem.Challenge.rw_mindsrevised_k66_whole_keeping_up_with_c) (n := 63) (k := 40) (x := "script") (e := K66.e42) rfl (by decide) (by kernel_rfl) ⟨rfl, by decide, by decide⟩ (by rw [en]; kernel_rfl) (by kernel_rfl) K66.sco K66.bi (by rw [en]; exact math)
set_option maxRecDepth 100000 in
set_option maxHeartbeats 0 in
theorem PySem.Challenge.cw_mindsrevised_k66_whole_keeping_up_with_c_holds : PySem.Challenge.rw_mindsrevised_k66_whole_keeping_up_with_c.Holds := by
  exact K66.join K66.math
