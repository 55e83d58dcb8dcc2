import PyProof.Rows.All
import Wide.All
import OpenK.AllK
import Wide.FinOn
import HandS.ForMost
import HandS.ForExc
import HandS.TupAny
import HandS.TupMul
import HandS.Style
import HandS.IsInst
import HandS.Deep
import HandS.Conv
import HandS.Lambda
import HandS.Codes
import HandS.RaiseMore
import PyProof.ListStr
import HandS.Iter
import KE.KDictKeyed
import KE.KDictWalk
import PyProof.Rows.TupTab
import KE.SortKeyHeap
import PyProof.AutoSeq1
import PyProof.SliceStr2
import KE.KRevSl
import HandS.ExcInit
import HandS.ExcOwn
import KE.SortKeyed
import KE.SortData
import KE.KDictPairs
import HandS.WordsExc
import HandS.SetFor
import HandS.ExcIs
import HandS.ExcField
import KE.KExcIs
import HandS.EndTab
import PySem.Challenge.RW_treetellers_k11_whole_each_part_by_its_r
set_option Elab.async false
set_option linter.all false
set_option maxRecDepth 100000
set_option maxHeartbeats 4000000
/-! Z: a small evaluator of a part of Python over data, and (behind) that the machine does what it says. -/
namespace Z
open PySem L2

/-! ### data -/
abbrev Tx := List Nat
def sOf (x : Tx) : Str := Str.mk x.toArray
inductive D where
  | non | bl (b : Bool) | int (i : Int) | str (x : Tx) | tup (xs : List D) | loc (n : Nat)
  /-- a list that stays as it is (the script) -/
  | fl (xs : List D)
mutual
def D.beq : D → D → Bool
  | .non, .non => true
  | .bl a, .bl b => a == b
  | .int a, .int b => a == b
  | .str a, .str b => a == b
  | .tup a, .tup b => D.beqs a b
  | .loc a, .loc b => a == b
  | .fl a, .fl b => D.beqs a b
  | _, _ => false
def D.beqs : List D → List D → Bool
  | [], [] => true
  | x :: xs, y :: ys => D.beq x y && D.beqs xs ys
  | _, _ => false
end
mutual
theorem D.eq_of : ∀ a b : D, D.beq a b = true → a = b
  | .non, b, h => by cases b <;> simp_all [D.beq]
  | .bl x, b, h => by cases b <;> simp_all [D.beq]
  | .int x, b, h => by cases b <;> simp_all [D.beq]
  | .str x, b, h => by cases b <;> simp_all [D.beq]
  | .tup xs, b, h => by
    cases b with
    | tup ys => rw [D.beq] at h; rw [D.eqs_of xs ys h]
    | _ => simp [D.beq] at h
  | .loc x, b, h => by cases b <;> simp_all [D.beq]
  | .fl xs, b, h => by
    cases b with
    | fl ys => rw [D.beq] at h; rw [D.eqs_of xs ys h]
    | _ => simp [D.beq] at h
theorem D.eqs_of : ∀ a b : List D, D.beqs a b = true → a = b
  | [], [], _ => rfl
  | [], _ :: _, h => by simp [D.beqs] at h
  | _ :: _, [], h => by simp [D.beqs] at h
  | x :: xs, y :: ys, h => by
    rw [D.beqs, Bool.and_eq_true] at h
    rw [D.eq_of x y h.1, D.eqs_of xs ys h.2]
end
mutual
theorem D.beq_rf : ∀ a : D, D.beq a a = true
  | .non => rfl
  | .bl x => by simp [D.beq]
  | .int x => by simp [D.beq]
  | .str x => by simp [D.beq]
  | .tup xs => by rw [D.beq]; exact D.beqs_rf xs
  | .loc x => by simp [D.beq]
  | .fl xs => by rw [D.beq]; exact D.beqs_rf xs
theorem D.beqs_rf : ∀ a : List D, D.beqs a a = true
  | [] => rfl
  | x :: xs => by rw [D.beqs, D.beq_rf x, D.beqs_rf xs]; rfl
end
instance : DecidableEq D := fun a b => if h : D.beq a b = true then isTrue (D.eq_of a b h) else isFalse fun e => h (by rw [e]; exact D.beq_rf b)

/-- a thing that may change -/
inductive Cell where
  | lst (xs : List D) | ins (c : Nat) (fs : List (Str × D))
  /-- a dict whose keys are tuples; one whose keys are ints and texts -/
  | dct (kvs : List (D × D)) | dck (kvs : List (D × D))
deriving DecidableEq
abbrev Sto := List Cell
abbrev Env := List (Option D)
/-- an exception -/
structure Ex where
  c : Nat
  f : Option (Str × D)
inductive R (α : Type) where
  | ok (a : α) (st : Sto) | exc (e : Ex) (st : Sto) | stuck
def R.bind {α β : Type} : R α → (α → Sto → R β) → R β
  | .ok a st, f => f a st
  | .exc e st, _ => .exc e st
  | .stuck, _ => .stuck
/-- an exception is not carried -/
def R.noex {α : Type} : R α → R α
  | .ok a st => .ok a st
  | _ => .stuck

/-! ### what the pieces of the text are -/
inductive BOp where | add | sub | mul | fdiv | mod
deriving DecidableEq
inductive COp where | eq | ne | lt | le | gt | ge | isN | notN | mem | nmem
deriving DecidableEq
inductive Kd where | bool | int | str | tup | lst
deriving DecidableEq
inductive Bi where | len | int | list | tuple | str | sum
deriving DecidableEq
inductive Me where | append | pop | extend | join | clear | index | split
deriving DecidableEq
inductive IT where | name (i : Nat) | tup (is : List Nat)
mutual
inductive IE where
  | var (i : Nat) | cst (d : D) | gl (d : D)
  | tup (es : IEs) | lst (es : IEs)
  | bin (o : BOp) (a b : IE) | cmp (o : COp) (a b : IE)
  | and (a b : IE) | or (a b : IE) | not (a : IE) | ite (c a b : IE)
  | ix (a i : IE) | sl (a : IE) (lo hi : IO) | rev (a : IE)
  | fld (a : IE) (f : Str) | isi (a : IE) (k : Kd) | bi (b : Bi) (a : IE)
  | call (f : Nat) (es : IEs) | mk (c : Nat) (es : IEs)
  | me0 (m : Me) (a : IE) | me1 (m : Me) (a b : IE) | om (x : Str) (m : Nat) (a : IE) (es : IEs)
  | comp (e : IE) (t : IT) (own : List Nat) (it : II) (c : IO)
  | told (e : IE) | mn2 (mx : Bool) (a b : IE)
  | srt (e : IE) | srtk (e : IE) | dpairs (e : IE)
  | dnew (t : Bool) | cch (o o' : COp) (a b c : IE) | lrng1 (a : IE) | lrng2 (a b : IE)
inductive IEs where
  | nil | cons (e : IE) (r : IEs)
inductive IO where
  | none | some (e : IE)
inductive II where
  | it (e : IE) | rng1 (e : IE) | rng2 (a b : IE) | enum (e : IE)
end
mutual
inductive IS where
  | asg (t : IT) (e : IE) | setf (a : IE) (f : Str) (e : IE) | seti (a i e : IE)
  | expr (e : IE) | ret (e : IE) | retN | pass | brk | cont
  | ite (c : IE) (a b : ISs) | whl (c : IE) (b : ISs) | for_ (t : IT) (it : II) (b : ISs)
  | par (is : List Nat) (es : IEs)
  | tryN (b : ISs) | rais0 (c : Nat) | rais1 (c : Nat) (f : Str) (e : IE)
  | never
inductive ISs where
  | nil | cons (s : IS) (r : ISs)
end

/-! ### what they do -/
/-- the functions that may be called: a def, a class's making (its __init__), a class's method -/
def putF' (f : Str) (v : D) : List (Str × D) → List (Str × D)
  | [] => [(f, v)]
  | (g, u) :: r => if g = f then (g, v) :: r else (g, u) :: putF' f v r
structure Cl where
  call : Nat → List D → Sto → R D
  /-- the word that tells of an exception, and the field that it tells, too -/
  tw : Nat → Option (Tx × Option Str)
  ini : Nat → Option Nat
  meth : Nat → Nat → Option Nat

def LIM : Nat := 100000
mutual
def toPW (f : Nat → Option PyData) : D → Option PyData
  | .non => some .none
  | .bl b => some (.bool b)
  | .int i => some (.int i)
  | .str x => some (.str (sOf x))
  | .tup xs => match toPWs f xs with | some ps => some (.tuple ps) | none => none
  | .loc k => f k
  | .fl _ => none
def toPWs (f : Nat → Option PyData) : List D → Option (List PyData)
  | [] => some []
  | x :: xs => match toPW f x, toPWs f xs with | some p, some ps => some (p :: ps) | _, _ => none
end
/-- as plain data; lists n deep are seen through -/
def toP (st : Sto) : Nat → D → Option PyData
  | 0 => toPW fun _ => none
  | n + 1 => toPW fun k => match st[k]? with
    | some (.lst xs) => (match toPWs (fun k => toP st n (.loc k)) xs with | some ps => some (.list ps) | none => none)
    | _ => none
mutual
/-- as a key -/
def nkD : D → Option NestedKey
  | .non => some .none
  | .int i => some (.num i)
  | .str x => some (.text (sOf x))
  | .tup ds => (match nkDs ds with | some ks => some (.tup ks) | none => none)
  | _ => none
def nkDs : List D → Option (List NestedKey)
  | [] => some []
  | d :: ds => match nkD d, nkDs ds with | some k, some ks => some (k :: ks) | _, _ => none
end
def keyT (d : D) : Bool := match d with
  | .tup _ => (match nkD d with | some k => decide (k.depth ≤ 8) | none => false)
  | _ => false
def keyK : D → Bool
  | .int _ => true | .str _ => true
  | _ => false
def dGet (kvs : List (D × D)) (k : D) : Option D := (kvs.find? fun p => decide (p.1 = k)).map (·.2)
def dPut (kvs : List (D × D)) (k v : D) : List (D × D) := if (dGet kvs k).isSome = true then kvs.map fun p => if p.1 = k then (p.1, v) else p else kvs ++ [(k, v)]
def eqG (st : Sto) (a b : D) : Option Bool := match toP st 2 a, toP st 2 b with
  | some p, some q => if p.canLay0 = true ∧ q.canLay0 = true ∧ min p.depth q.depth ≤ 64 then some (PyData.eqv p q) else none
  | _, _ => none
def eqD (st : Sto) (a b : D) : Option Bool := match a, b with
  | .int i, .int j => some (decide (i = j))
  | .str i, .str j => some (decide (i = j))
  | .bl i, .bl j => some (decide (i = j))
  | .tup xs, .tup [] => some xs.isEmpty
  | .loc n, .loc k => (match st[n]?, st[k]? with
    | some (.lst xs), some (.lst []) => some xs.isEmpty
    | _, _ => eqG st (.loc n) (.loc k))
  | a, b => eqG st a b
/-- the items of a list or a tuple -/
def seqD (st : Sto) : D → Option (List D)
  | .tup xs => some xs
  | .loc n => (match st[n]? with | some (.lst xs) => some xs | _ => none)
  | .fl xs => some xs
  | _ => none
/-- the items of a list -/
def lstD (st : Sto) : D → Option (List D)
  | .loc n => (match st[n]? with | some (.lst xs) => some xs | _ => none)
  | .fl xs => some xs
  | _ => none
def ofO {α : Type} (st : Sto) : Option α → R α
  | some a => .ok a st
  | none => .stuck

def binD (o : BOp) (a b : D) (st : Sto) : R D := match o, a, b with
  | .add, .int i, .int j => .ok (.int (i + j)) st
  | .add, .str x, .str y => if x.length + y.length ≤ LIM then .ok (.str (x ++ y)) st else .stuck
  | .add, .tup x, .tup y => if x.length + y.length ≤ LIM then .ok (.tup (x ++ y)) st else .stuck
  | .add, .loc l, .loc k => (match st[l]?, st[k]? with
    | some (.lst x), some (.lst y) => if x.length + y.length ≤ LIM then .ok (.loc st.length) (st ++ [.lst (x ++ y)]) else .stuck
    | _, _ => .stuck)
  | .sub, .int i, .int j => .ok (.int (i - j)) st
  | .mul, .int i, .int j => if (-(2 ^ 64) < i ∧ i < 2 ^ 64) ∨ (-(2 ^ 64) < j ∧ j < 2 ^ 64) then .ok (.int (i * j)) st else .stuck
  | .mul, .str x, .int k => if x ≠ [] ∧ 2 ≤ k ∧ k ≤ 1000 ∧ x.length ≤ 100 then .ok (.str (List.replicate k.toNat x).flatten) st else .stuck
  | .mul, .tup xs, .int k => if xs ≠ [] ∧ 2 ≤ k ∧ k ≤ 1000 ∧ xs.length ≤ 1000 then .ok (.tup (List.replicate k.toNat xs).flatten) st else .stuck
  | .fdiv, .int i, .int j => if 0 < j ∧ j < 1073741824 then .ok (.int (i / j)) st else .stuck
  | .mod, .int i, .int j => if 0 < j then .ok (.int (i % j)) st else .stuck
  | _, _, _ => .stuck
/-- whether an equal one is among them -/
def memS (st : Sto) (a : D) (xs : List D) : Option Bool := match toP st 2 a, toP st 2 (.tup xs) with
  | some p, some (.tuple ps) => if SeqAt.shaped p = true ∧ SeqAt.shaped (.tuple ps) = true then some (ps.any fun z => PyData.eqv z p) else none
  | _, _ => none
def memD (st : Sto) (a b : D) : Option Bool := match b with
  | .str y => (match a with | .str [c] => some (decide (c ∈ y)) | _ => none)
  | .tup xs => memS st a xs
  | .loc n => (match st[n]? with
    | some (.lst xs) => memS st a xs
    | some (.dct kvs) => if keyT a = true then some (dGet kvs a).isSome else none
    | some (.dck kvs) => if keyK a = true then some (dGet kvs a).isSome else none
    | _ => none)
  | _ => none
def cmpD (o : COp) (a b : D) (st : Sto) : R D := match o with
  | .eq => (ofO st (eqD st a b)).bind fun r st => .ok (.bl r) st
  | .ne => (ofO st (eqD st a b)).bind fun r st => .ok (.bl (!r)) st
  | .lt => (match a, b with | .int i, .int j => .ok (.bl (decide (i < j))) st | _, _ => .stuck)
  | .le => (match a, b with | .int i, .int j => .ok (.bl (decide (i ≤ j))) st | _, _ => .stuck)
  | .gt => (match a, b with | .int i, .int j => .ok (.bl (decide (j < i))) st | _, _ => .stuck)
  | .ge => (match a, b with | .int i, .int j => .ok (.bl (decide (j ≤ i))) st | _, _ => .stuck)
  | .isN => (match b with | .non => .ok (.bl (decide (a = .non))) st | _ => .stuck)
  | .notN => (match b with | .non => .ok (.bl (!decide (a = .non))) st | _ => .stuck)
  | .mem => (ofO st (memD st a b)).bind fun r st => .ok (.bl r) st
  | .nmem => (ofO st (memD st a b)).bind fun r st => .ok (.bl (!r)) st
def ixS (a i : D) (st : Sto) : R D := match i with
  | .int i => (match a with
    | .str x => if x.length ≤ LIM then (ofO st (atI x i)).bind fun c st => .ok (.str [c]) st else .stuck
    | a => (ofO st (seqD st a)).bind fun xs st => ofO st (atI xs i))
  | _ => .stuck
def ixD (a i : D) (st : Sto) : R D := match a with
  | .loc n => (match st[n]? with
    | some (.dct kvs) => if keyT i = true then ofO st (dGet kvs i) else .stuck
    | some (.dck kvs) => if keyK i = true then ofO st (dGet kvs i) else .stuck
    | _ => ixS (.loc n) i st)
  | a => ixS a i st
def cutD {α : Type} (xs : List α) (lo hi : Option Int) : List α := (xs.drop (HT.sIx xs.length 0 lo)).take (HT.sIx xs.length xs.length hi - HT.sIx xs.length 0 lo)
def slD (a : D) (lo hi : Option Int) (st : Sto) : R D := match a with
  | .str x => if x.length ≤ LIM then .ok (.str (cutD x lo hi)) st else .stuck
  | .tup xs => .ok (.tup (cutD xs lo hi)) st
  | a => (ofO st (lstD st a)).bind fun xs st => .ok (.loc st.length) (st ++ [.lst (cutD xs lo hi)])
def revD (a : D) (st : Sto) : R D := match a with
  | .tup xs => .ok (.tup xs.reverse) st
  | .str x => if x.length ≤ LIM then .ok (.str x.reverse) st else .stuck
  | a => (ofO st (lstD st a)).bind fun xs st => .ok (.loc st.length) (st ++ [.lst xs.reverse])
def fldD (a : D) (f : Str) (st : Sto) : R D := match a with
  | .loc n => (match st[n]? with | some (.ins _ fs) => ofO st (fs.lookup f) | _ => .stuck)
  | _ => .stuck
def kindD (st : Sto) : D → Option (Option Kd)
  | .non => some none
  | .bl _ => some (some .bool)
  | .int _ => some (some .int)
  | .str _ => some (some .str)
  | .tup _ => some (some .tup)
  | .loc n => (match st[n]? with | some (.lst _) => some (some .lst) | _ => none)
  | .fl _ => none
def isiD (a : D) (k : Kd) (st : Sto) : R D := (ofO st (kindD st a)).bind fun t st => .ok (.bl (decide (t = some k ∨ (t = some .bool ∧ k = .int)))) st
def intsD : List D → Option (List Int)
  | [] => some []
  | .int i :: r => (match intsD r with | some l => some (i :: l) | none => none)
  | _ => none
def strsD : List D → Option (List Tx)
  | [] => some []
  | .str i :: r => (match strsD r with | some l => some (i :: l) | none => none)
  | _ => none
def digitT (x : Tx) : Option Int := match x with
  | [c] => if 48 ≤ c ∧ c ≤ 57 then some ((c : Int) - 48) else none
  | _ => none
def biD (b : Bi) (a : D) (st : Sto) : R D := match b with
  | .len => (match a with
    | .str x => if x.length ≤ LIM then .ok (.int x.length) st else .stuck
    | a => (ofO st (seqD st a)).bind fun xs st => .ok (.int xs.length) st)
  | .int => (match a with
    | .int i => .ok (.int i) st
    | .bl k => .ok (.int (if k then 1 else 0)) st
    | .str x => (ofO st (digitT x)).bind fun i st => .ok (.int i) st
    | _ => .stuck)
  | .list => (match a with
    | .str x => if x.length ≤ LIM then .ok (.loc st.length) (st ++ [.lst (x.map fun c => D.str [c])]) else .stuck
    | a => (ofO st (seqD st a)).bind fun xs st => .ok (.loc st.length) (st ++ [.lst xs]))
  | .tuple => (ofO st (seqD st a)).bind fun xs st => .ok (.tup xs) st
  | .str => (match a with
    | .int i => if 0 ≤ i ∧ i < 10 then .ok (.str [48 + i.toNat]) st else .stuck
    | .str x => .ok (.str x) st
    | _ => .stuck)
  | .sum => (ofO st (lstD st a)).bind fun xs st => (ofO st (intsD xs)).bind fun ns st => .ok (.int ns.sum) st
def joinT (sep : Tx) : List Tx → Tx
  | [] => []
  | [x] => x
  | x :: y :: r => x ++ sep ++ joinT sep (y :: r)
/-- cut at each sign c -/
def splitT (c : Nat) (x : Tx) : List Tx := TL.spl [c] 0 [] x
def me0D (m : Me) (a : D) (st : Sto) : R D := match m, a with
  | .pop, .loc n => (match st[n]? with
    | some (.lst xs) => (match xs.getLast? with | some x => .ok x (st.set n (.lst xs.dropLast)) | none => .stuck)
    | _ => .stuck)
  | .clear, .loc n => (match st[n]? with | some (.lst _) => .ok .non (st.set n (.lst [])) | _ => .stuck)
  | _, _ => .stuck
def me1D (m : Me) (a b : D) (st : Sto) : R D := match m, a with
  | .append, .loc n => (match st[n]? with
    | some (.lst xs) => if xs.length < LIM then .ok .non (st.set n (.lst (xs ++ [b]))) else .stuck
    | _ => .stuck)
  | .pop, .loc n => (match st[n]?, b with
    | some (.lst xs), .int i => (match ixN xs.length i with
      | some k => (match xs[k]? with | some x => if xs.length ≤ LIM then .ok x (st.set n (.lst (xs.eraseIdx k))) else .stuck | none => .stuck)
      | none => .stuck)
    | _, _ => .stuck)
  | .extend, .loc n => (match b with
    | .loc k => (match st[n]?, st[k]? with
      | some (.lst xs), some (.lst ys) => if xs.length + ys.length ≤ LIM then .ok .non (st.set n (.lst (xs ++ ys))) else .stuck
      | _, _ => .stuck)
    | .tup ys => (match st[n]? with
      | some (.lst xs) => if xs.length + ys.length ≤ LIM then .ok .non (st.set n (.lst (xs ++ ys))) else .stuck
      | _ => .stuck)
    | _ => .stuck)
  | .index, .loc n => (match st[n]?, toP st 2 b with
    | some (.lst xs), some p => (match toP st 2 (.tup xs) with
      | some (.tuple ps) => if SeqAt.shaped p = true ∧ SeqAt.shaped (.tuple ps) = true then
          (match ps.findIdx? fun z => PyData.eqv z p with | some j => .ok (.int j) st | none => .stuck) else .stuck
      | _ => .stuck)
    | _, _ => .stuck)
  | .join, .str sep => (ofO st (seqD st b)).bind fun xs st => (ofO st (strsD xs)).bind fun ys st =>
      if (ys.map List.length).sum + ys.length * sep.length ≤ LIM then .ok (.str (joinT sep ys)) st else .stuck
  | .split, .str x => (match b with
    | .str [c] => if c < 256 ∧ x.length + 2 ≤ LIM then .ok (.loc st.length) (st ++ [.lst ((splitT c x).map D.str)]) else .stuck
    | _ => .stuck)
  | _, _ => .stuck
/-- whether a thing has such a method -/
def recvOk (m : Me) (st : Sto) (d : D) : Bool := match m with
  | .join => (match d with | .str _ => true | _ => false)
  | .split => (match d with | .str _ => true | _ => false)
  | _ => decide (kindD st d = some (some .lst))
/-- what is told of a work: what it came to, or which exception it ended by -/
def toldR (tw : Nat → Option (Tx × Option Str)) : R D → R D
  | .ok d st => .ok d st
  | .exc x st => (match tw x.c, x.f with
    | some (w, none), none => .ok (.tup [.str w, .int 0]) st
    | some (w, some f), some (g, d) => if g = f then .ok (.tup [.str w, d]) st else .stuck
    | _, _ => .stuck)
  | .stuck => .stuck
/-- each with its plain data -/
def srtL (st : Sto) : List D → Option (List (D × PyData))
  | [] => some []
  | x :: xs => match toP st 2 x, srtL st xs with | some p, some l => some ((x, p) :: l) | _, _ => none
def alikeB (ds : List PyData) : Bool := ds.all fun d => ds.all fun d' => PySem.W.alike d d'
def sortB (ds : List PyData) : Bool := (ds.all fun d => match d with | .tuple _ => true | _ => false) || ds.all fun d => match d with | .none => false | .tuple _ => false | _ => true
def plist (st : Sto) : D → Option (List D)
  | .loc n => (match st[n]? with | some (.lst xs) => some xs | _ => none)
  | _ => none
/-- sorted(list of alike data) -/
def srtD (a : D) (st : Sto) : R D := (ofO st (plist st a)).bind fun xs st => (ofO st (srtL st xs)).bind fun L st =>
  if alikeB (L.map (·.2)) = true ∧ sortB (L.map (·.2)) = true ∧ (L.all fun p => decide (p.2.depth ≤ 190)) = true then .ok (.loc st.length) (st ++ [.lst ((L.mergeSort (PySem.W.dataLe false (·.2))).map (·.1))]) else .stuck
def lenK : D → Option Nat
  | .tup (.tup p :: _) => some p.length
  | _ => none
/-- sorted(list of tuples, key=lambda p: 0 - len(p[0])) -/
def srtkD (a : D) (st : Sto) : R D := (ofO st (plist st a)).bind fun xs st =>
  if (xs.all fun x => (lenK x).isSome) = true then .ok (.loc st.length) (st ++ [.lst (xs.mergeSort fun a b => decide ((lenK b).getD 0 ≤ (lenK a).getD 0))]) else .stuck
def pairsD : List D → Option (List (D × D))
  | [] => some []
  | .tup [k, v] :: r => if keyT k = true then (match pairsD r with | some l => some ((k, v) :: l) | none => none) else none
  | _ => none
/-- dict(list of pairs) -/
def dpairsD (a : D) (st : Sto) : R D := (ofO st (plist st a)).bind fun xs st => (ofO st (pairsD xs)).bind fun L st =>
  .ok (.loc st.length) (st ++ [.dct (L.foldl (fun kvs p => dPut kvs p.1 p.2) [])])
def bOf (st : Sto) : D → R Bool
  | .bl b => .ok b st
  | _ => .stuck
def iOf (st : Sto) : D → R Int
  | .int b => .ok b st
  | _ => .stuck
def asgT (ρ : Env) : IT → D → Option Env
  | .name i, d => some (ρ.set i (some d))
  | .tup is, .tup ds => if ds.length = is.length then some ((is.zip ds).foldl (fun ρ p => ρ.set p.1 (some p.2)) ρ) else none
  | _, _ => none
def wipeE (ρ : Env) : List Nat → Env
  | [] => ρ
  | v :: vs => (wipeE ρ vs).set v none
/-- what is walked: the items, and the list that must stand as it is meanwhile -/
structure Wk where
  xs : List D
  l : Option (Nat × Cell)
def Wk.stays (w : Wk) (st : Sto) : Bool := match w.l with
  | none => true
  | some (n, c) => decide (st[n]? = some c)
/-- with their numbers -/
def enumD (i : Nat) : List D → List D
  | [] => []
  | x :: xs => .tup [.int i, x] :: enumD (i + 1) xs
def Wk.enum (w : Wk) : Wk := ⟨enumD 0 w.xs, w.l⟩
def wkD (a : D) (st : Sto) : R Wk := match a with
  | .tup xs => .ok ⟨xs, none⟩ st
  | .loc n => (match st[n]? with
    | some (.lst xs) => .ok ⟨xs, some (n, .lst xs)⟩ st
    | _ => .stuck)
  | .fl xs => .ok ⟨xs, none⟩ st
  | _ => .stuck
def rngW (lo : Int) (n : Nat) : Wk := ⟨(List.range n).map fun (k : Nat) => D.int (lo + (k : Int)), none⟩
def iLim (i : Int) : Prop := -(2 ^ 62) ≤ i ∧ i < 2 ^ 62
instance (i : Int) : Decidable (iLim i) := by unfold iLim; infer_instance
def compL (w : Wk) (f : D → Sto → R (Option D)) : List D → Sto → R (List D)
  | [], st => if w.stays st = true then .ok [] st else .stuck
  | x :: xs, st => if w.stays st = true then (f x st).bind fun o st => (compL w f xs st).bind fun ys st => .ok (match o with | some y => y :: ys | none => ys) st else .stuck
mutual
def ev (C : Cl) : IE → Env → Sto → R D
  | .var i, ρ, st => (match ρ[i]? with | some (some d) => .ok d st | _ => .stuck)
  | .cst d, _, st => .ok d st
  | .gl d, _, st => .ok d st
  | .tup es, ρ, st => (evs C es ρ st).bind fun ds st => if ds.length ≤ LIM then .ok (.tup ds) st else .stuck
  | .lst es, ρ, st => (evs C es ρ st).bind fun ds st => if ds.length ≤ LIM then .ok (.loc st.length) (st ++ [.lst ds]) else .stuck
  | .bin o a b, ρ, st => (ev C a ρ st).bind fun x st => (ev C b ρ st).bind fun y st => binD o x y st
  | .cmp o a b, ρ, st => (ev C a ρ st).bind fun x st => (ev C b ρ st).bind fun y st => cmpD o x y st
  | .and a b, ρ, st => (ev C a ρ st).bind fun x st => (bOf st x).bind fun k st => if k = true then (ev C b ρ st).bind fun y st => (bOf st y).bind fun j st => .ok (.bl j) st else .ok (.bl false) st
  | .or a b, ρ, st => (ev C a ρ st).bind fun x st => (bOf st x).bind fun k st => if k = true then .ok (.bl true) st else (ev C b ρ st).bind fun y st => (bOf st y).bind fun j st => .ok (.bl j) st
  | .not a, ρ, st => (ev C a ρ st).bind fun x st => (bOf st x).bind fun k st => .ok (.bl (!k)) st
  | .ite c a b, ρ, st => (ev C c ρ st).bind fun x st => (bOf st x).bind fun k st => if k = true then ev C a ρ st else ev C b ρ st
  | .ix a i, ρ, st => (ev C a ρ st).bind fun x st => (ev C i ρ st).bind fun y st => ixD x y st
  | .sl a lo hi, ρ, st => (ev C a ρ st).bind fun x st => (evO C lo ρ st).bind fun l st => (evO C hi ρ st).bind fun h st => slD x l h st
  | .rev a, ρ, st => (ev C a ρ st).bind fun x st => revD x st
  | .fld a f, ρ, st => (ev C a ρ st).bind fun x st => fldD x f st
  | .isi a k, ρ, st => (ev C a ρ st).bind fun x st => isiD x k st
  | .bi b a, ρ, st => (ev C a ρ st).bind fun x st => biD b x st
  | .call f es, ρ, st => (evs C es ρ st).bind fun ds st => C.call f ds st
  | .mk c es, ρ, st => (evs C es ρ st).bind fun ds st => match C.ini c with
    | some f => (C.call f (.loc st.length :: ds) (st ++ [.ins c []])).bind fun r st' => if r = .non then .ok (.loc st.length) st' else .stuck
    | none => .stuck
  | .me0 m a, ρ, st => (ev C a ρ st).bind fun x st => if recvOk m st x = true then me0D m x st else .stuck
  | .me1 m a b, ρ, st => (ev C a ρ st).bind fun x st => if recvOk m st x = true then (ev C b ρ st).bind fun y st => me1D m x y st else .stuck
  | .om nm m a es, ρ, st => (ev C a ρ st).bind fun x st => match x with
    | .loc n => (match st[n]? with
      | some (.ins c fs) => (match C.meth c m, fs.lookup nm with
        | some f, none => (evs C es ρ st).bind fun ds st => C.call f (.loc n :: ds) st
        | _, _ => .stuck)
      | _ => .stuck)
    | _ => .stuck
  | .told e, ρ, st => toldR C.tw (ev C e ρ st)
  | .mn2 m a b, ρ, st => (ev C a ρ st).bind fun x st => (ev C b ρ st).bind fun y st => (iOf st x).bind fun i st => (iOf st y).bind fun j st => .ok (.int (if m = true then (if i < j then j else i) else (if j < i then j else i))) st
  | .srt a, ρ, st => (ev C a ρ st).bind fun x st => srtD x st
  | .srtk a, ρ, st => (ev C a ρ st).bind fun x st => srtkD x st
  | .dpairs a, ρ, st => (ev C a ρ st).bind fun x st => dpairsD x st
  | .dnew t, _, st => .ok (.loc st.length) (st ++ [if t = true then .dct [] else .dck []])
  | .cch o o' a b c, ρ, st => (ev C a ρ st).bind fun x st => (ev C b ρ st).bind fun y st => (cmpD o x y st).bind fun z st => (bOf st z).bind fun k st =>
      if k = true then (ev C c ρ st).bind fun w st => cmpD o' y w st else .ok (.bl false) st
  | .lrng1 a, ρ, st => (ev C a ρ st).bind fun x st => (iOf st x).bind fun i st => if 0 ≤ i ∧ i ≤ 100000 then .ok (.loc st.length) (st ++ [.lst (rngW 0 i.toNat).xs]) else .stuck
  | .lrng2 a b, ρ, st => (ev C a ρ st).bind fun x st => (ev C b ρ st).bind fun y st => (iOf st x).bind fun i st => (iOf st y).bind fun j st =>
      if 0 ≤ i ∧ i ≤ 100000 ∧ 0 ≤ j ∧ j ≤ 100000 then .ok (.loc st.length) (st ++ [.lst (rngW i (j - i).toNat).xs]) else .stuck
  | .comp e t own it c, ρ, st => (evI C it ρ st).bind fun w st =>
    ((compL w (fun x st => match asgT (wipeE ρ own) t x with
      | some ρ' => (evC C c ρ' st).bind fun k st => if k = true then (ev C e ρ' st).bind fun y st => .ok (some y) st else .ok none st
      | none => .stuck) w.xs st).noex).bind fun ys st => if ys.length ≤ LIM then .ok (.loc st.length) (st ++ [.lst ys]) else .stuck
def evs (C : Cl) : IEs → Env → Sto → R (List D)
  | .nil, _, st => .ok [] st
  | .cons e r, ρ, st => (ev C e ρ st).bind fun x st => (evs C r ρ st).bind fun xs st => .ok (x :: xs) st
def evO (C : Cl) : IO → Env → Sto → R (Option Int)
  | .none, _, st => .ok none st
  | .some e, ρ, st => (ev C e ρ st).bind fun x st => (iOf st x).bind fun i st => .ok (some i) st
/-- a comprehension's test -/
def evC (C : Cl) : IO → Env → Sto → R Bool
  | .none, _, st => .ok true st
  | .some e, ρ, st => (ev C e ρ st).bind fun x st => bOf st x
def evI (C : Cl) : II → Env → Sto → R Wk
  | .it e, ρ, st => (ev C e ρ st).bind fun x st => wkD x st
  | .enum e, ρ, st => (ev C e ρ st).bind fun x st => match x with
    | .loc _ => (wkD x st).bind fun w st => .ok w.enum st
    | .fl _ => (wkD x st).bind fun w st => .ok w.enum st
    | _ => .stuck
  | .rng1 e, ρ, st => (ev C e ρ st).bind fun x st => (iOf st x).bind fun i st => if iLim i then .ok (rngW 0 i.toNat) st else .stuck
  | .rng2 a b, ρ, st => (ev C a ρ st).bind fun x st => (ev C b ρ st).bind fun y st => (iOf st x).bind fun i st => (iOf st y).bind fun j st => if iLim i ∧ iLim j then .ok (rngW i (j - i).toNat) st else .stuck
end

/-- one turn of a comprehension -/
def turnC (C : Cl) (t : IT) (own : List Nat) (c : IO) (e : IE) (ρ : Env) (x : D) (st : Sto) : R (Option D) := match asgT (wipeE ρ own) t x with
      | some ρ' => (evC C c ρ' st).bind fun k st => if k = true then (ev C e ρ' st).bind fun y st => .ok (some y) st else .ok none st
      | none => .stuck

/-- where a statement ends -/
inductive Fl where
  | nx | bk | ct | rt (d : D)
inductive SR where
  | ok (f : Fl) (ρ : Env) (st : Sto) | exc (e : Ex) (ρ : Env) (st : Sto) | stuck
def R.sbind {α : Type} (ρ : Env) : R α → (α → Sto → SR) → SR
  | .ok a st, f => f a st
  | .exc e st, _ => .exc e ρ st
  | .stuck, _ => .stuck
/-- an exception is not carried -/
def SR.noex : SR → SR
  | .exc _ _ _ => .stuck
  | r => r
def SR.then : SR → (Env → Sto → SR) → SR
  | .ok .nx ρ st, f => f ρ st
  | r, _ => r
/-- the end of a loop's turn -/
def SR.turn : SR → (Env → Sto → SR) → SR
  | .ok .nx ρ st, f => f ρ st
  | .ok .ct ρ st, f => f ρ st
  | .ok .bk ρ st, _ => .ok .nx ρ st
  | r, _ => r
def loopW (t : Env → Sto → R Bool) (b : Env → Sto → SR) : Nat → Env → Sto → SR
  | 0, _, _ => .stuck
  | n + 1, ρ, st => (t ρ st).sbind ρ fun k st => if k = true then (b ρ st).turn (loopW t b n) else .ok .nx ρ st
def loopF (w : Wk) (t : IT) (b : Env → Sto → SR) : List D → Env → Sto → SR
  | [], ρ, st => if w.stays st = true then .ok .nx ρ st else .stuck
  | x :: xs, ρ, st => if w.stays st = true then (match asgT ρ t x with
    | some ρ' => (b ρ' st).turn (loopF w t b xs)
    | none => .stuck) else .stuck
def evT (C : Cl) (e : IE) (ρ : Env) (st : Sto) : R Bool := (ev C e ρ st).bind fun x st => bOf st x
mutual
def evS (C : Cl) (F : Nat) : IS → Env → Sto → SR
  | .asg t e, ρ, st => (ev C e ρ st).sbind ρ fun x st => match asgT ρ t x with | some ρ' => .ok .nx ρ' st | none => .stuck
  | .setf a f e, ρ, st => (ev C e ρ st).sbind ρ fun y st => (ev C a ρ st).sbind ρ fun x st => match x with
    | .loc n => (match st[n]? with | some (.ins c fs) => if fs.length < 1000 then .ok .nx ρ (st.set n (.ins c (putF' f y fs))) else .stuck | _ => .stuck)
    | _ => .stuck
  | .seti a i e, ρ, st => (ev C e ρ st).sbind ρ fun y st => (ev C a ρ st).sbind ρ fun x st => (ev C i ρ st).sbind ρ fun k st => match x, k with
    | .loc n, .int i => (match st[n]? with
      | some (.lst xs) => (match ixN xs.length i with | some j => .ok .nx ρ (st.set n (.lst (xs.set j y))) | none => .stuck)
      | some (.dck kvs) => if kvs.length < LIM then .ok .nx ρ (st.set n (.dck (dPut kvs k y))) else .stuck
      | _ => .stuck)
    | .loc n, .str _ => (match st[n]? with
      | some (.dck kvs) => if kvs.length < LIM then .ok .nx ρ (st.set n (.dck (dPut kvs k y))) else .stuck
      | _ => .stuck)
    | .loc n, .tup _ => (match st[n]? with
      | some (.dct kvs) => if keyT k = true ∧ kvs.length < LIM then .ok .nx ρ (st.set n (.dct (dPut kvs k y))) else .stuck
      | _ => .stuck)
    | _, _ => .stuck
  | .expr e, ρ, st => (ev C e ρ st).sbind ρ fun _ st => .ok .nx ρ st
  | .ret e, ρ, st => (ev C e ρ st).sbind ρ fun x st => .ok (.rt x) ρ st
  | .retN, ρ, st => .ok (.rt .non) ρ st
  | .pass, ρ, st => .ok .nx ρ st
  | .brk, ρ, st => .ok .bk ρ st
  | .cont, ρ, st => .ok .ct ρ st
  | .ite c a b, ρ, st => (evT C c ρ st).sbind ρ fun k st => if k = true then evSs C F a ρ st else evSs C F b ρ st
  | .whl c b, ρ, st => loopW (evT C c) (evSs C F b) F ρ st
  | .for_ t it b, ρ, st => (evI C it ρ st).sbind ρ fun w st => loopF w t (evSs C F b) w.xs ρ st
  | .par is es, ρ, st => (evs C es ρ st).sbind ρ fun ds st => if ds.length = is.length then .ok .nx ((is.zip ds).foldl (fun ρ p => ρ.set p.1 (some p.2)) ρ) st else .stuck
  | .tryN b, ρ, st => (evSs C F b ρ st).noex
  | .rais0 c, ρ, st => .exc ⟨c, none⟩ ρ st
  | .rais1 c f e, ρ, st => (ev C e ρ st).sbind ρ fun d st => .exc ⟨c, some (f, d)⟩ ρ st
  | .never, _, _ => .stuck
def evSs (C : Cl) (F : Nat) : ISs → Env → Sto → SR
  | .nil, ρ, st => .ok .nx ρ st
  | .cons s r, ρ, st => (evS C F s ρ st).then (evSs C F r)
end

/-! ### a program -/
structure FnIR where
  np : Nat
  nl : Nat
  body : ISs
  /-- whether works are told of in it (it then takes two levels) -/
  lm : Bool := false
structure Prog where
  fns : List FnIR
  ini : Nat → Option Nat
  meth : Nat → Nat → Option Nat
  tw : Nat → Option (Tx × Option Str)
mutual
/-- no place at n or further is told -/
def clD (n : Nat) : D → Bool
  | .tup xs => clDs n xs
  | .loc k => decide (k < n)
  | .fl xs => clDs n xs
  | _ => true
def clDs (n : Nat) : List D → Bool
  | [] => true
  | x :: xs => clD n x && clDs n xs
end
def clC (n : Nat) : Cell → Bool
  | .lst xs => clDs n xs
  | .ins _ fs => clDs n (fs.map (·.2))
  | .dct kvs => clDs n (kvs.map (·.1)) && clDs n (kvs.map (·.2))
  | .dck kvs => clDs n (kvs.map (·.1)) && clDs n (kvs.map (·.2))
mutual
/-- the places that are told, in turn -/
def locsD : D → List Nat
  | .tup xs => locsDs xs
  | .loc k => [k]
  | .fl xs => locsDs xs
  | .non => [] | .bl _ => [] | .int _ => [] | .str _ => []
def locsDs : List D → List Nat
  | [] => []
  | x :: xs => locsD x ++ locsDs xs
end
def locsC : Cell → List Nat
  | .lst xs => locsDs xs
  | .ins _ fs => locsDs (fs.map (·.2))
  | .dct kvs => locsDs (kvs.map (·.2))
  | .dck kvs => locsDs (kvs.map (·.2))
mutual
/-- places by other numbers -/
def rnD (g : Nat → Nat) : D → D
  | .tup xs => .tup (rnDs g xs)
  | .loc k => .loc (g k)
  | .fl xs => .fl (rnDs g xs)
  | .non => .non | .bl b => .bl b | .int i => .int i | .str x => .str x
def rnDs (g : Nat → Nat) : List D → List D
  | [] => []
  | x :: xs => rnD g x :: rnDs g xs
end
def rnC (g : Nat → Nat) : Cell → Cell
  | .lst xs => .lst (rnDs g xs)
  | .ins c fs => .ins c (fs.map fun p => (p.1, rnD g p.2))
  | .dct kvs => .dct (kvs.map fun p => (p.1, rnD g p.2))
  | .dck kvs => .dck (kvs.map fun p => (p.1, rnD g p.2))
/-- the new places that are come to -/
def reach (n0 : Nat) (st : Sto) : Nat → List Nat → List Nat → List Nat
  | 0, _, acc => acc
  | _ + 1, [], acc => acc
  | f + 1, k :: todo, acc => if k < n0 ∨ k ∈ acc then reach n0 st f todo acc else
      reach n0 st f (todo ++ (match st[k]? with | some c => locsC c | none => [])) (acc ++ [k])
/-- the new number of a place -/
def newN (n0 : Nat) (L : List Nat) (k : Nat) : Nat := if k < n0 then k else n0 + L.idxOf k
def okN (n0 : Nat) (L : List Nat) (k : Nat) : Bool := decide (k < n0) || decide (k ∈ L)
/-- what stood is as it was, or told by what stood -/
def OldOk (st0 st : Sto) : Prop := ∀ i, i < st0.length → st[i]? = st0[i]? ∨ (st[i]?.map (clC st0.length)) = some true
instance (st0 st : Sto) : Decidable (OldOk st0 st) := by unfold OldOk; infer_instance
def pickC (n0 : Nat) (L : List Nat) (st : Sto) (k : Nat) : Cell := rnC (newN n0 L) (st[k]?.getD (.lst []))
def GcOk (n0 : Nat) (L : List Nat) (d : D) (st : Sto) : Prop := L.Nodup ∧ (∀ k ∈ L, n0 ≤ k ∧ (st[k]?.map fun c => (locsC c).all (okN n0 L)) = some true) ∧ (locsD d).all (okN n0 L) = true
instance (n0 : Nat) (L : List Nat) (d : D) (st : Sto) : Decidable (GcOk n0 L d st) := by unfold GcOk; infer_instance
/-- behind a call: of what was made in it there stays what is told, numbered anew -/
def gcD (n0 : Nat) (L : List Nat) (d : D) (st : Sto) : R D := if GcOk n0 L d st then .ok (rnD (newN n0 L) d) (st.take n0 ++ L.map (pickC n0 L st)) else .ok d st
def exC (e : Ex) : Bool := match e.f with | none => true | some (_, d) => clD 0 d
def finish (st0 : Sto) : R D → R D
  | .ok d st => if OldOk st0 st then gcD st0.length (reach st0.length st 40 (locsD d) []) d st else .ok d st
  | .exc e st => if exC e = true ∧ OldOk st0 st then .exc e (st.take st0.length) else .exc e st
  | .stuck => .stuck
def runB : SR → R D
  | .ok .nx _ st => .ok .non st
  | .ok (.rt d) _ st => .ok d st
  | .ok _ _ _ => .stuck
  | .exc e _ st => .exc e st
  | .stuck => .stuck
abbrev Fn := Nat → List D → Sto → R D
def Prog.step (pr : Prog) (F : Nat) (C : Cl) : Fn := fun f ds st => match pr.fns[f]? with
  | some fi => if ds.length = fi.np then finish st (runB (evSs C F fi.body (ds.map some ++ List.replicate (fi.nl - fi.np) none) st)) else .stuck
  | none => .stuck
def Prog.lam (pr : Prog) (f : Nat) : Bool := match pr.fns[f]? with | some fi => fi.lm | none => false
def Prog.call (pr : Prog) (F : Nat) : Nat → Fn
  | 0 => fun _ _ _ => .stuck
  | 1 => fun f => if pr.lam f = true then fun _ _ => .stuck else pr.step F ⟨fun _ _ _ => .stuck, pr.tw, pr.ini, pr.meth⟩ f
  | k + 2 => fun f => if pr.lam f = true then pr.step F ⟨pr.call F k, pr.tw, pr.ini, pr.meth⟩ f else pr.step F ⟨pr.call F (k + 1), pr.tw, pr.ini, pr.meth⟩ f
def Prog.cl (pr : Prog) (F k : Nat) : Cl := ⟨pr.call F k, pr.tw, pr.ini, pr.meth⟩

/-! ### that a piece stands in the text -/
structure CC where
  fns : List (Str × Nat)
  cls : List (Str × Nat)
  gls : List (Str × D)
  bls : List Str
  mns : List (Str × Nat)
  flds : List Str
  /-- exception classes that are raised with a written text; those with a field of their own -/
  ex0 : List (Str × Nat)
  ex1 : List (Str × (Nat × Str))
  /-- the def that tells of a work; the parameter that it calls -/
  tdef : Option Str
  /-- the code object and the name of the def in which it stands, if that makes lambdas -/
  lam : Option (Addr × Str)
def visB (sc : Scope) (x : Str) : Bool := match sc.names.lookup x with
  | some .local => true | some .cell => true | some .free => true | _ => false
def glB (sc : Scope) (x : Str) : Bool := decide (sc.names.lookup x = some .globalImplicit) && decide ((x == ("__debug__" : Str)) = false)
def isStar : Expr → Bool
  | .Starred .. => true
  | _ => false
def isComp : Expr → Bool
  | .ListComp .. => true | .SetComp .. => true | .DictComp .. => true
  | _ => false
def isSlice : Expr → Bool
  | .Slice .. => true
  | _ => false
def isSetD : Expr → Bool
  | .Set .. => true
  | _ => false
def baseOk : Expr → Bool
  | .Call _ [] _ _ => false
  | _ => true
def cstOk : D → Const → Bool
  | .non, .none => true
  | .bl a, .bool b => a == b
  | .int a, .int b => decide (a = b)
  | .str x, .str y => decide (y = sOf x)
  | _, _ => false
def opOk : BOp → Operator → Bool
  | .add, .Add => true | .sub, .Sub => true | .mul, .Mult => true | .fdiv, .FloorDiv => true | .mod, .Mod => true
  | _, _ => false
def copOk : COp → CmpOp → Bool
  | .eq, .Eq => true | .ne, .NotEq => true | .lt, .Lt => true | .le, .LtE => true | .gt, .Gt => true | .ge, .GtE => true
  | .isN, .Is => true | .notN, .IsNot => true | .mem, .In => true | .nmem, .NotIn => true
  | _, _ => false
def kdName : Kd → String
  | .bool => "bool" | .int => "int" | .str => "str" | .tup => "tuple" | .lst => "list"
def biName : Bi → Str
  | .len => "len" | .int => "int" | .list => "list" | .tuple => "tuple" | .str => "str" | .sum => "sum"
def meName : Me → Str
  | .append => "append" | .pop => "pop" | .extend => "extend" | .join => "join" | .clear => "clear" | .index => "index" | .split => "split"
def blB (cc : CC) (sc : Scope) (x : Str) : Bool := glB sc x && decide (x ∈ cc.bls) && decide (x ≠ ("__name__" : Str))
/-- numbered pairs come to a target of several names -/
def tgOk : II → Expr → Bool
  | .enum _, .Tuple _ _ _ => true
  | .enum _, _ => false
  | _, _ => true
def IT.slots : IT → List Nat
  | .name i => [i]
  | .tup is => is
def tgB (N : List Str) (sc : Scope) (fnS : Str → Bool) (i : Nat) : Expr → Bool
  | .Name x _ => decide (N[i]? = some x) && (match sc.names.lookup x with | some .local => true | some .cell => fnS x | _ => false)
  | _ => false
def tgsB (N : List Str) (sc : Scope) (fnS : Str → Bool) : List Nat → List Expr → Bool
  | [], [] => true
  | i :: is, e :: es => tgB N sc fnS i e && tgsB N sc fnS is es
  | _, _ => false
def chkT (N : List Str) (sc : Scope) (fnS : Str → Bool) : IT → Expr → Bool
  | .name i, e => tgB N sc fnS i e
  | .tup is, .Tuple es _ _ => tgsB N sc fnS is es
  | _, _ => false
/-- no parameters -/
def lamArgs : Arguments → Bool
  | a => a.posonlyargs.isEmpty && a.args.isEmpty && a.vararg.isNone && a.kwonlyargs.isEmpty && a.kw_defaults.isEmpty && a.kwarg.isNone && a.defaults.isEmpty
/-- lambda p: 0 - len(p[0]) -/
def keyLam (params : Arguments) (body : Expr) (scope : Scope) : Bool := match params, body with
  | ⟨[], [p], none, [], [], none, []⟩, .BinOp (.Constant (.int 0) _ _) .Sub (.Call (.Name ln _) [.Subscript (.Name q _) (.Constant (.int 0) _ _) _] [] _) _ =>
    decide (q = p.arg) && decide (q = "_law_pair") && decide (ln = "len") && decide (scope.names.lookup q = some .local) && decide (scope.names.lookup ln = some .globalImplicit) && (scope.names.all fun y => decide (y.2 ≠ .cell) && decide (y.2 ≠ .free)) && decide (scope.kind = .function) && !scope.isCoroutine && !scope.isGenerator
      && decide ((q == ("__debug__" : Str)) = false) && decide ((q == ("__classdict__" : Str)) = false)
  | _, _ => false
mutual
def chkE (cc : CC) (N : List Str) : Scope → IE → Expr → Bool
  | sc, .var i, e => (match e with | .Name x _ => decide (N[i]? = some x) && visB sc x && decide ((x == ("__debug__" : Str)) = false) && decide ((x == ("__classdict__" : Str)) = false) | _ => false)
  | _, .cst d, e => (match e with | .Constant c _ _ => cstOk d c | .UnaryOp .USub (.Constant (.int j) _ _) _ => decide (d = .int (-j)) | _ => false)
  | sc, .gl d, e => (match e with | .Name x _ => glB sc x && decide (cc.gls.lookup x = some d) | _ => false)
  | sc, .tup es, e => (match e with | .Tuple xs _ _ => chkEs cc N sc es xs | _ => false)
  | sc, .lst es, e => (match e with | .List xs _ => chkEs cc N sc es xs | _ => false)
  | sc, .bin o a b, e => (match e with | .BinOp x op y _ => opOk o op && chkE cc N sc a x && chkE cc N sc b y | _ => false)
  | sc, .cmp o a b, e => (match e with | .Compare x [op] [y] _ => copOk o op && (!behindInMarks op y) && chkE cc N sc a x && chkE cc N sc b y | _ => false)
  | sc, .and a b, e => (match e with
    | .BoolOp .And [x, y] _ => chkE cc N sc a x && chkE cc N sc b y
    | .BoolOp .And (x :: y :: z :: r) pos => chkE cc N sc a x && chkE cc N sc b (.BoolOp .And (y :: z :: r) pos)
    | _ => false)
  | sc, .or a b, e => (match e with
    | .BoolOp .Or [x, y] _ => chkE cc N sc a x && chkE cc N sc b y
    | .BoolOp .Or (x :: y :: z :: r) pos => chkE cc N sc a x && chkE cc N sc b (.BoolOp .Or (y :: z :: r) pos)
    | _ => false)
  | sc, .not a, e => (match e with | .UnaryOp .Not x _ => chkE cc N sc a x | _ => false)
  | sc, .ite c a b, e => (match e with | .IfExp t x y _ => chkE cc N sc c t && chkE cc N sc a x && chkE cc N sc b y | _ => false)
  | sc, .ix a i, e => (match e with | .Subscript x y _ => (!isSlice y) && chkE cc N sc a x && chkE cc N sc i y | _ => false)
  | sc, .sl a lo hi, e => (match e with | .Subscript x (.Slice l h none _) _ => chkE cc N sc a x && chkO cc N sc lo l && chkO cc N sc hi h | _ => false)
  | sc, .rev a, e => (match e with | .Subscript x (.Slice none none (some (.UnaryOp .USub (.Constant (.int 1) _ _) _)) _) _ => chkE cc N sc a x | _ => false)
  | sc, .fld a f, e => (match e with | .Attribute x g _ => decide (f = g) && decide (f ∈ cc.flds) && baseOk x && chkE cc N sc a x | _ => false)
  | sc, .isi a k, e => (match e with | .Call (.Name nm _) [x, .Name t _] [] _ => decide (nm = "isinstance") && decide (t = Str.ofString (kdName k)) && blB cc sc nm && blB cc sc t && (!isStar x) && chkE cc N sc a x | _ => false)
  | sc, .bi b a, e => (match e with | .Call (.Name nm _) [x] [] _ => decide (nm = biName b) && blB cc sc nm && (!isStar x) && chkE cc N sc a x | _ => false)
  | sc, .call f es, e => (match e with | .Call (.Name nm _) xs [] _ => decide (cc.fns.lookup nm = some f) && glB sc nm && chkEs cc N sc es xs | _ => false)
  | sc, .mk c es, e => (match e with | .Call (.Name nm _) xs [] _ => decide (cc.cls.lookup nm = some c) && glB sc nm && chkEs cc N sc es xs | _ => false)
  | sc, .me0 m a, e => (match e with | .Call (.Attribute x nm ap) [] [] p => decide (nm = meName m) && decide (m = .pop ∨ m = .clear) && baseOk x && (ap.endLine == p.line) && chkE cc N sc a x | _ => false)
  | sc, .me1 m a b, e => (match e with | .Call (.Attribute x nm ap) [y] [] p => decide (nm = meName m) && decide (m ≠ .clear) && baseOk x && (!isStar y) && (ap.endLine == p.line) && chkE cc N sc a x && chkE cc N sc b y | _ => false)
  | sc, .om x' m a es, e => (match e with | .Call (.Attribute x nm ap) xs [] p => decide (x' = nm) && decide (cc.mns.lookup nm = some m) && baseOk x && (ap.endLine == p.line) && decide (xs.length < 20) && chkE cc N sc a x && chkEs cc N sc es xs | _ => false)
  | sc, .told a, e => (match e with | .Call (.Name nm _) [.Lambda params body scope _] [] _ => decide (cc.tdef = some nm) && glB sc nm && cc.lam.isSome && lamArgs params && LamX.lamSB sc scope && chkE { cc with lam := none } N scope a body | _ => false)
  | sc, .mn2 m a b, e => (match e with | .Call (.Name nm _) [x, y] [] _ => decide (nm = if m = true then "max" else "min") && blB cc sc nm && (!isStar x) && (!isStar y) && chkE cc N sc a x && chkE cc N sc b y | _ => false)
  | sc, .srt a, e => (match e with | .Call (.Name nm _) [x] [] _ => decide (nm = "sorted") && blB cc sc nm && (!isStar x) && chkE cc N sc a x | _ => false)
  | sc, .srtk a, e => (match e with | .Call (.Name nm _) [x] [⟨some kw, .Lambda params body scope _, _⟩] _ => decide (nm = "sorted") && blB cc sc nm && (!isStar x) && decide (kw = "key") && cc.lam.isSome && keyLam params body scope && blB cc sc "len" && chkE cc N sc a x | _ => false)
  | sc, .dpairs a, e => (match e with | .Call (.Name nm _) [x] [] _ => decide (nm = "dict") && blB cc sc nm && (!isStar x) && chkE cc N sc a x | _ => false)
  | _, .dnew _, e => (match e with | .Dict [] [] _ => true | _ => false)
  | sc, .cch o o' a b c, e => (match e with | .Compare x [op, op'] [y, z] _ => copOk o op && copOk o' op' && (!lastMarks [op, op'] [y, z]) && chkE cc N sc a x && chkE cc N sc b y && chkE cc N sc c z | _ => false)
  | sc, .lrng1 a, e => (match e with | .Call (.Name ln _) [.Call (.Name nm _) [x] [] _] [] _ => decide (ln = "list") && blB cc sc ln && decide (nm = "range") && blB cc sc nm && (!isStar x) && chkE cc N sc a x | _ => false)
  | sc, .lrng2 a b, e => (match e with | .Call (.Name ln _) [.Call (.Name nm _) [x, y] [] _] [] _ => decide (ln = "list") && blB cc sc ln && decide (nm = "range") && blB cc sc nm && (!isStar x) && (!isStar y) && chkE cc N sc a x && chkE cc N sc b y | _ => false)
  | sc, .comp e t own it c, x => (match x with
    | .ListComp elt [⟨tg, iter, ifs, k⟩] scope _ => decide (k = 0) && blkC N sc scope (own.map fun i => (N.getD i "", i)) && (t.slots.all fun i => decide (i ∈ own)) && chkT N (relS scope sc) (fun x => scope.names.lookup x == some .cell) t tg && tgOk it tg && chkI cc N sc it iter &&
        (!isSetD iter) && chkC cc N (relS scope sc) c ifs && chkE cc N (relS scope sc) e elt
    | _ => false)
def chkEs (cc : CC) (N : List Str) : Scope → IEs → List Expr → Bool
  | _, .nil, es => (match es with | [] => true | _ => false)
  | sc, .cons a r, es => (match es with | e :: es => (!isStar e) && chkE cc N sc a e && chkEs cc N sc r es | _ => false)
def chkO (cc : CC) (N : List Str) : Scope → IO → Option Expr → Bool
  | _, .none, e => (match e with | none => true | _ => false)
  | sc, .some a, e => (match e with | some e => chkE cc N sc a e | _ => false)
def chkC (cc : CC) (N : List Str) : Scope → IO → List Expr → Bool
  | _, .none, e => (match e with | [] => true | _ => false)
  | sc, .some a, e => (match e with | [e] => chkE cc N sc a e | _ => false)
def chkI (cc : CC) (N : List Str) : Scope → II → Expr → Bool
  | sc, .it a, e => chkE cc N sc a e
  | sc, .enum a, e => (match e with | .Call (.Name nm _) [x] [] _ => decide (nm = "enumerate") && blB cc sc nm && (!isStar x) && chkE cc N sc a x | _ => false)
  | sc, .rng1 a, e => (match e with | .Call (.Name nm _) [x] [] _ => decide (nm = "range") && blB cc sc nm && (!isStar x) && chkE cc N sc a x | _ => false)
  | sc, .rng2 a b, e => (match e with | .Call (.Name nm _) [x, y] [] _ => decide (nm = "range") && blB cc sc nm && (!isStar x) && (!isStar y) && chkE cc N sc a x && chkE cc N sc b y | _ => false)
end
def bothTup : Expr → Expr → Bool
  | .Tuple .., .Tuple .. => true
  | _, _ => false
/-- a, b = x, y for plain local names -/
def parNames (sc : Scope) (N : List Str) (l : Nat) : List Nat → List Expr → Bool
  | [], [] => true
  | i :: is, .Name x p :: es => decide (N[i]? = some x) && decide (sc.names.lookup x = some .local) && decide (p.line = l) && parNames sc N l is es
  | _, _ => false
/-- .. where not all names are plain local ones -/
def noSwapB (sc : Scope) : Expr → Bool
  | .Tuple ts _ _ => ts.any fun | .Name x _ => !decide (sc.names.lookup x = some .local) | _ => true
  | _ => false
def setComp (sc : Scope) : Expr → Expr → Bool
  | .Name y py, .ListComp _ _ scope pos => decide (sc.names.lookup y = some .local) && (py.line == pos.line) && !(scope.names.any fun (n, k) => n == y && (k == .local || k == .cell))
  | _, v => !isComp v
mutual
def chkS (cc : CC) (N : List Str) (sc : Scope) : IS → Stmt → Bool
  | .asg t e, s => (match s with | .Assign [tg] v _ => ((!bothTup tg v) || noSwapB sc tg) && setComp sc tg v && chkT N sc (fun _ => true) t tg && chkE cc N sc e v | _ => false)
  | .setf a f e, s => (match s with | .Assign [.Attribute o g _] v _ => decide (f = g) && decide (f ∈ cc.flds) && chkE cc N sc a o && chkE cc N sc e v | _ => false)
  | .seti a i e, s => (match s with | .Assign [.Subscript o k _] v _ => (!isSlice k) && chkE cc N sc a o && chkE cc N sc i k && chkE cc N sc e v | _ => false)
  | .expr e, s => (match s with | .Expr v _ => (!isComp v) && chkE cc N sc e v | _ => false)
  | .ret e, s => (match s with | .Return (some v) _ => chkE cc N sc e v | _ => false)
  | .retN, s => (match s with | .Return none _ => true | _ => false)
  | .pass, s => (match s with | .Pass _ => true | _ => false)
  | .brk, s => (match s with | .Break _ => true | _ => false)
  | .cont, s => (match s with | .Continue _ => true | _ => false)
  | .ite c a b, s => (match s with | .If t xs ys _ => chkE cc N sc c t && chkSs cc N sc a xs && chkSs cc N sc b ys | _ => false)
  | .whl c b, s => (match s with | .While t xs [] _ => chkE cc N sc c t && chkSs cc N sc b xs | _ => false)
  | .for_ t it b, s => (match s with | .For tg iter xs [] _ => chkT N sc (fun _ => true) t tg && tgOk it tg && chkI cc N sc it iter && (!isSetD iter) && chkSs cc N sc b xs | _ => false)
  | .par is es, s => (match s with | .Assign [.Tuple ts k pt] (.Tuple vs _ _) pos => decide (is.Nodup) && (decide (ts.length = 2) || decide (ts.length = 3)) && decide (vs.length = ts.length) && parNames sc N ((ts.head?.map (·.pos.line)).getD 0) is ts && (!vs.any isStar) && (!vs.all (foldedForSure 8)) && (!vs.all (constantsAlone 8)) && chkEs cc N sc es vs | _ => false)
  | .tryN b, s => (match s with | .Try xs (_ :: _) [] [] _ => chkSs cc N sc b xs | _ => false)
  | .rais0 c, s => (match s with | .Raise (some (.Call (.Name nm _) [.Constant (.str _) _ _] [] _)) none _ => decide (cc.ex0.lookup nm = some c) && glB sc nm | _ => false)
  | .rais1 c f a, s => (match s with | .Raise (some (.Call (.Name nm _) [x] [] _)) none _ => decide (cc.ex1.lookup nm = some (c, f)) && glB sc nm && (!isStar x) && chkE cc N sc a x | _ => false)
  | .never, _ => true
def chkSs (cc : CC) (N : List Str) (sc : Scope) : ISs → List Stmt → Bool
  | .nil, ss => (match ss with | [] => true | _ => false)
  | .cons a r, ss => (match ss with | s :: ss => chkS cc N sc a s && chkSs cc N sc r ss | _ => false)
end
end Z
/-! dicts whose keys are tuples of ints, texts, None and tuples -/
namespace Z
open PySem L2 PySem.Spec PyProof.Rows
mutual
def pyNk : NestedKey → PyData
  | .none => .none
  | .num i => .int i
  | .text x => .str x
  | .tup ks => .tuple (pyNks ks)
def pyNks : List NestedKey → List PyData
  | [] => []
  | k :: ks => pyNk k :: pyNks ks
end
mutual
theorem nk_reads {h : Heap} : ∀ (k : NestedKey) {u : Value} {as : List Addr}, Reads h u (pyNk k) as → NestedIs h k u
  | .none, u, as, r => by rw [pyNk] at r; cases r; exact .none
  | .num i, u, as, r => by rw [pyNk] at r; cases r; exact .int _ _
  | .text x, u, as, r => by rw [pyNk] at r; cases r; exact .text _ _
  | .tup ks, u, as, r => by
    rw [pyNk] at r
    cases r with
    | tuple h1 h2 h3 h4 => exact .tup h1 h2 h3 (nks_reads ks h4)
theorem nks_reads {h : Heap} : ∀ (ks : List NestedKey) {us : List Value} {as : List Addr}, ReadsAll h us (pyNks ks) as → NestedAll h ks us
  | [], us, as, r => by rw [pyNks] at r; cases r; exact .nil
  | k :: ks, us, as, r => by
    rw [pyNks] at r
    cases r with
    | cons h1 h2 => exact .cons (nk_reads k h1) (nks_reads ks h2)
end
abbrev NdX := List (NestedKey × Addr × Value)
def NdR (P : Program) (w : World) (a : Addr) (xs : NdX) (h : Heap) : Prop := (a == sysModules) = false ∧ xs.length ≤ sizeLine ∧
  ∃ o es ep, h.get? a = some o ∧ o.ExactDict ∧ o.data = .dict es ep ∧ es.toList = xs.map (entryOfKey (nestedKind P w)) ∧ (xs.map (·.1)).Nodup
def NdO (P : Program) (w : World) (a : Addr) (xs : NdX) : HO := .ext (NdR P w a xs)
theorem ndO_ok {P : Program} {w : World} {H : Hp} {h : Heap} {a : Addr} {xs : NdX} (x : NdR P w a xs h) : ObjOk P w H h a (NdO P w a xs) := by
  obtain ⟨h1, h2, o, es, ep, e, r⟩ := id x
  exact ⟨x, ⟨o, e⟩, fun g1 g2 ⟨a1, a2, o', es', ep', e', r'⟩ st => ⟨a1, a2, o', es', ep', st _ e', r'⟩⟩
/-- its keys -/
def NdKs (K : PySem.W.Frag) (H : Hp) (xs : NdX) : Prop := ∀ x ∈ xs, Dp K H (.ref x.2.1) (pyNk x.1) ∧ x.1.depth ≤ 8
section
variable {X : Cx} {pins : List (Addr × Obj)} {σ : L2.St} {H : Hp} {s : Shared} {a b : Addr} {xs : NdX}
theorem nk_is (I : Inv X pins σ H s) {k : NestedKey} (h : Dp X.K H (.ref b) (pyNk k)) (hd : k.depth ≤ 8) : (nestedKind X.prog X.w).is s.heap k b := by
  obtain ⟨as, r⟩ := Dp.reads I _ _ (.ref b) h rfl
  exact ⟨nk_reads k r, hd⟩
theorem nd_at (I : Inv X pins σ H s) (e : H a = some (NdO X.prog X.w a xs)) (hk : NdKs X.K H xs) : (a == sysModules) = false ∧ xs.length ≤ sizeLine ∧ s.heap.DictOfH (nestedKind X.prog X.w) a xs := by
  obtain ⟨⟨h1, h2, o, es, ep, h3, h4, h5, h6, h7⟩, _, _⟩ := I.hok a _ e
  exact ⟨h1, h2, o, es, ep, h3, h4, h5, h6, fun x hx => nk_is I (hk x hx).1 (hk x hx).2, h7⟩
def rNdIx (P : Program) (w : World) (K : PySem.W.Frag) : R2 := fun x y H Q => ∃ a b xs k ka u v, x = .ref a ∧ y = .ref b ∧ H a = some (NdO P w a xs) ∧ NdKs K H xs ∧ Dp K H (.ref b) (pyNk k) ∧ k.depth ≤ 8 ∧ atKey xs k = some (ka, u) ∧ RelV v u ∧ Q v H
theorem nd_getItem (hu : X.A.units + 9 < cLine) {x y : V} {v u : Value} {Q : VK} (I : Inv X pins σ H s) (rx : RelV x v) (ry : RelV y u) (h : rNdIx X.prog X.w X.K x y H Q) : wpAny (model X.prog X.w) X.A (getItem v u) (EP X pins σ Q) X.xe s := by
  obtain ⟨a, b, xs, k, ka, w', v', rfl, rfl, e, hk, dk, hd, hat, rv, q⟩ := h
  obtain rfl : v = Value.ref a := rx
  obtain rfl : u = Value.ref b := ry
  obtain ⟨h1, h2, dd⟩ := nd_at I e hk
  exact wpAny_getItem_heap (show X.A.units + 1 + 8 < cLine by omega) (nk_is I dk hd) dd hat ⟨v', H, I.tok _, rv, q⟩
def rNdIn (P : Program) (w : World) (K : PySem.W.Frag) (neg : Bool) : R2 := fun x y H Q => ∃ a b xs k, y = .ref a ∧ x = .ref b ∧ H a = some (NdO P w a xs) ∧ NdKs K H xs ∧ Dp K H (.ref b) (pyNk k) ∧ k.depth ≤ 8 ∧ Q (.bl (if neg then !(atKey xs k).isSome else (atKey xs k).isSome)) H
theorem op_ndIn (hu : X.A.units + 9 < cLine) : OpR X (compareOp .In) (rNdIn X.prog X.w X.K false) := by
  intro pins s σ H x y v u Q I rx ry h
  obtain ⟨a, b, xs, k, rfl, rfl, e, hk, dk, hd, q⟩ := h
  obtain rfl : v = Value.ref b := rx
  obtain rfl : u = Value.ref a := ry
  obtain ⟨h1, h2, dd⟩ := nd_at I e hk
  exact wpAny_in_heap (show X.A.units + 1 + 8 < cLine by omega) (nk_is I dk hd) h1 dd ⟨.bl _, H, I.tok _, rfl, q⟩
theorem op_ndNotIn (hu : X.A.units + 9 < cLine) : OpR X (compareOp .NotIn) (rNdIn X.prog X.w X.K true) := by
  intro pins s σ H x y v u Q I rx ry h
  obtain ⟨a, b, xs, k, rfl, rfl, e, hk, dk, hd, q⟩ := h
  obtain rfl : v = Value.ref b := rx
  obtain rfl : u = Value.ref a := ry
  obtain ⟨h1, h2, dd⟩ := nd_at I e hk
  exact wpAny_notIn_heap (show X.A.units + 1 + 8 < cLine by omega) (nk_is I dk hd) h1 dd ⟨.bl _, H, I.tok _, rfl, q⟩
theorem storedH_len {K : Type} [DecidableEq K] (xs : List (K × Addr × Value)) (k : K) (a : Addr) (v : Value) : (storedH xs k a v).length ≤ xs.length + 1 := by
  unfold storedH; split <;> simp
def rNdSet (P : Program) (w : World) (K : PySem.W.Frag) : TSet := fun o i v H Q => ∃ a b xs k, o = .ref a ∧ i = .ref b ∧ H a = some (NdO P w a xs) ∧ NdKs K H xs ∧ Dp K H (.ref b) (pyNk k) ∧ k.depth ≤ 8 ∧ xs.length < sizeLine ∧
  ∀ u, RelV v u → Q (upd H a (NdO P w a (storedH xs k b u)))
theorem set_nd (hu : X.A.units + 9 < cLine) : PSet X (rNdSet X.prog X.w X.K) := by
  intro pins s σ H o i v ov iv u Q I ro ri rv h
  obtain ⟨a, b, xs, k, rfl, rfl, e, hk, dk, hd, hl, q⟩ := h
  obtain rfl : ov = Value.ref a := ro
  obtain rfl : iv = Value.ref b := ri
  obtain ⟨h1, h2, dd⟩ := nd_at I e hk
  refine wpAny_setItem_heap (hsz := h2) (show X.A.units + 1 + 8 < cLine by omega) (nk_is I dk hd) dd fun h' dd' hs => ?_
  obtain ⟨o, es, ep, g1, g2, g3, g4, _, g5⟩ := dd'
  refine ⟨_, d_write I (by rw [e]; exact True.intro) hs ⟨o, g1⟩ (ndO_ok ⟨h1, ?_, o, es, ep, g1, g2, g3, g4, g5⟩), q u rv⟩
  have := storedH_len xs k b u
  omega
def tNdNew (P : Program) (w : World) : TE := fun _ H Q => ∀ p, H p = none → Q (.ref p) (upd H p (NdO P w p []))
theorem pe_ndNew {pos : Pos} : PE X (.Dict [] [] pos) (tNdNew X.prog X.w) := ⟨fun pins s σ H Q I h =>
  wpAny_Dict_empty ⟨.ref s.heap.objs.size, _, I.laid (a := s.heap.objs.size) (o := NdO X.prog X.w s.heap.objs.size []) (t' := s.toks) (fun _ _ q => Heap.get?_push_of_some _ q) (Nat.le_refl _)
    (ndO_ok ⟨beq_eq_false_iff_ne.mpr (Ne.symm (Nat.ne_of_lt I.big)), Nat.zero_le _, _, #[], 0, Heap.get?_push_size _ rfl, ⟨rfl, rfl, rfl⟩, rfl, rfl, List.nodup_nil⟩), rfl, h _ (I.hok.fresh (Nat.le_refl _))⟩⟩
end
end Z
/-! t[::-1], s[::-1]; xs.extend(t) -/
namespace PySem.AutoSeq1
theorem extend_lt (l : Addr) (items : Array Value) (n : Nat) (b : Addr) (items2 : Array Value) (n2 : Nat) (dd : Option Addr) (ss : Array (Option Value)) (hs0 : ¬(!items.isEmpty && Builtin.List.listTooLong (items.size + items2.size)) = true) (hs1 : items.size ≤ sizeLine) (hs2 : items.size + items2.size ≤ sizeLine + 1) :
    Meets (Builtin.«list.extend» ⟨[.ref l, .ref b], []⟩) (fun _ R s => s.heap.get? l = some { cls := .type "list", dict := none, data := .seq items n, slots := #[] } ∧ s.heap.get? b = some { cls := .type "tuple", dict := dd, data := .seq items2 n2, slots := ss } ∧ R (.ok (.ret Value.none)) { s with heap := s.heap.update l (Obj.mapSeq fun x => x ++ items2), toks := s.toks }) :=
  .of_wp fun prog w A R s h => by
    obtain ⟨hp, g, d, tk, os⟩ := s; obtain ⟨hl, hb, h⟩ := h; have f1 := idx_int; have f2 := sub_tuple_tuple; have f3 := sub_list_list; have f4 := sub_tuple_list; have f5 := sub_list_tuple;
    have hz' : (items ++ items2).size ≤ sizeLine + 1 := by rw [Array.size_append]; exact hs2
    wp_walk using (wpAny_updateSeq hl rfl (hz := hs1) (_hz' := hz')), wpAny_loadPart' hl, wpAny_loadPart' hb; exact ⟨_, rfl, h⟩
end PySem.AutoSeq1
namespace Z
open PySem L2 PySem.Spec PyProof.Rows
section
variable {prog : Program} {w : World} {A : Around} {E : Value → Shared → Prop} {s : Shared}
theorem adjust_rev (n : Nat) : Builtin.Slice.sliceAdjust none none (-1) (n : Int) = ((n : Int) - 1, -1) := by
  unfold Builtin.Slice.sliceAdjust
  have h1 : ((-1 : Int) < 0) := by omega
  simp only [h1, if_true]
theorem places_rev (n : Nat) : Builtin.Slice.slicePlaces ((n : Int) - 1) (-1) (-1) = n := by
  unfold Builtin.Slice.slicePlaces
  have h1 : ¬ ((-1 : Int) > 0) := by omega
  simp only [h1, if_false, show (- -1 : Int) = 1 by decide, Int.ediv_one]
  split <;> omega
theorem sliceApplied_rev {sl : Addr} {vs : Value} {n : Nat} {Q : Int × Int × Nat → Shared → Prop} (hs : s.heap.IsSliceOf sl .none .none vs) (ps : IsPart vs (some (-1)))
    (h : Q ((n : Int) - 1, -1, n) s) : wpAny (model prog w) A (Builtin.Slice.sliceApplied (.ref sl) (pure (n : Int))) Q E s := by
  obtain ⟨os, hos, hcs, hds⟩ := id hs
  unfold Builtin.Slice.sliceApplied Builtin.Slice.sliceFields
  refine wpAny_bind (wpAny_bind (wpAny_field hos hds (x := .none) rfl (wpAny_bind (wpAny_field hos hds (x := .none) rfl (wpAny_bind (wpAny_field hos hds (x := vs) rfl (wpAny_pure ?_)))))))
  refine wpAny_bind (HT.slicePart_ ps ?_)
  show wpAny _ _ (if ((-1 : Int) == 0) = true then _ else _) _ _ s
  rw [if_neg (by decide)]
  refine wpAny_bind (slicePart_none (wpAny_bind (slicePart_none (wpAny_bind (wpAny_pure ?_)))))
  show wpAny _ _ (match Builtin.Slice.sliceAdjust none none (-1) (n : Int) with | (lo, hi) => pure (lo, (-1 : Int), Builtin.Slice.slicePlaces lo hi (-1))) _ _ s
  rw [adjust_rev n]
  show wpAny _ _ (pure ((n : Int) - 1, (-1 : Int), Builtin.Slice.slicePlaces ((n : Int) - 1) (-1) (-1))) _ _ s
  rw [places_rev]
  exact wpAny_pure h
theorem fm_congr {α β : Type} {f g : α → Option β} : ∀ {l : List α}, (∀ a ∈ l, f a = g a) → l.filterMap f = l.filterMap g
  | [], _ => rfl
  | a :: l, h => by rw [List.filterMap_cons, List.filterMap_cons, h a List.mem_cons_self, fm_congr fun b hb => h b (List.mem_cons_of_mem _ hb)]
theorem pick_rev (xs : Array Value) : ((List.range xs.size).filterMap fun (m : Nat) => xs[((xs.size : Int) - 1 + (m : Int) * (-1)).toNat]?).toArray = xs.toList.reverse.toArray := by
  congr 1
  rw [← PySem.W.krv_all xs, ← List.filterMap_reverse, ← PySem.W.krv_range, List.filterMap_map]
  refine fm_congr fun m hm => ?_
  have := List.mem_range.mp hm
  show xs[((xs.size : Int) - 1 + (m : Int) * (-1)).toNat]? = xs[xs.size - 1 - m]?
  congr 1
  omega
theorem getItem_tuple_rev {t sl : Addr} {items : Array Value} {vs : Value} {Q : Value → Shared → Prop} (ht : IsTup s.heap t items) (hs : s.heap.IsSliceOf sl .none .none vs) (ps : IsPart vs (some (-1)))
    (h : Q (.ref s.heap.objs.size) { s with heap := s.heap.push { cls := .type "tuple", data := .seq items.toList.reverse.toArray } })
    (hsz : items.size ≤ sizeLine) : wpAny (model prog w) A (getItem (.ref t) (.ref sl)) Q E s := by
  have htake : sizeOk (.seq items.toList.reverse.toArray) := by
    show items.toList.reverse.toArray.size ≤ sizeLine
    rw [List.size_toArray, List.length_reverse, Array.length_toList]
    exact hsz
  obtain ⟨os, hos, hcs, hds⟩ := id hs
  have hTs : s.TypeIs (.ref sl) "slice" := ⟨os, hos, hcs⟩
  unfold getItem
  try with_reducible refine wpAny_holding ?_
  first | refine wpAny_bind (wpAny_pure ?_) | skip
  refine wpAny_bind (wpAny_sequenceKey ht.typeIs (by decide) ?_)
  refine wpAny_bind (wpAny_callSpecial?_slot (name := Str.ofString "__getitem__") ht.typeIs PyProof.Rows.slot_tuple_getitem
    (wpAny_call_entry PyProof.Rows.slot_tuple_getitem ht.typeIs entry_tuple_getitem ?_ (args_tuple_getitem _ _)))
  show wpAny _ _ (Builtin.Tuple.tupleItemsOf (.ref t) >>= _) _ _ s
  refine wpAny_bind (tupleItemsOf_ ht ?_)
  refine wpAny_bind (wpAny_typeOf hTs ?_)
  rw [if_pos (by decide)]
  refine wpAny_bind (sliceApplied_rev hs ps ?_)
  have hno : ¬ ((((items.size : Int) - 1) == 0 && (-1 : Int) == 1 && items.size == items.size) = true) := by simp
  show wpAny _ _ (if (((items.size : Int) - 1) == 0 && (-1 : Int) == 1 && items.size == items.size) = true then _ else _) _ _ s
  rw [if_neg hno, pick_rev]
  first
    | exact wpAny_bind (m := Builtin.Tuple.tupleExact _) (wpAny_newObj_type (wpAny_pure ⟨_, rfl, wpAny_pure h⟩) htake)
    | exact wpAny_bind (m := Builtin.Tuple.tupleExact _) (wpAny_newObj_type (wpAny_bind (wpAny_pure (wpAny_pure ⟨_, rfl, wpAny_pure h⟩))) htake)
    | exact wpAny_bind (wpAny_bind (m := Builtin.Tuple.tupleExact _) (wpAny_newObj_type (wpAny_pure (wpAny_pure ⟨_, rfl, wpAny_pure h⟩)) htake))
    | exact wpAny_bind (wpAny_bind (m := Builtin.Tuple.tupleExact _) (wpAny_newObj_type (wpAny_pure ⟨_, rfl, wpAny_pure h⟩) htake))
end
def rExtendT (K : PySem.W.Frag) : V → List V → Hp → VK → Prop := fun x vs H Q => ∃ l b xs zs, x = .ref l ∧ vs = [.ref b] ∧ H l = some (.lst xs) ∧ SqT K H b zs ∧ xs.length + zs.length ≤ sizeLine ∧ Q .non (upd H l (.lst (xs ++ zs)))
theorem mt_extendT {X : Cx} : MtM X "list.extend" (rExtendT X.K) := by
  intro pins s σ H x vs v us Q I rx rv h
  obtain ⟨l, b, xs, zs, rfl, rfl, hH, hB, hz, q⟩ := h
  cases rx
  obtain ⟨u, rfl, ru⟩ := rv.one
  cases ru
  obtain ⟨z, its, n, r, hl, e⟩ := I.lstM hH
  obtain ⟨its2, r2, ⟨⟨c2, dd, d2, ss⟩, e2, hc2, n2, hd2⟩, hl2⟩ := I.tuple hB
  dsimp only at hc2 hd2
  subst hc2 hd2
  have hle := r2.length
  have hsz : its.toArray.size + its2.toArray.size ≤ sizeLine := by rw [List.size_toArray, List.size_toArray]; omega
  have hlong : ¬ (!its.toArray.isEmpty && Builtin.List.listTooLong (its.toArray.size + its2.toArray.size)) = true := by
    rw [notLongL hsz, Bool.and_false]
    exact Bool.false_ne_true
  refine call_meets F.slot_list_extend ⟨_, e, rfl⟩ F.entry_list_extend (F.args_list_extend_2 _ _)
    (PySem.AutoSeq1.extend_lt l its.toArray n b its2.toArray n2 dd ss hlong (by rw [List.size_toArray]; omega) (by omega)) ⟨e, e2, ?_⟩
  refine ⟨.non, _, I.lset (its' := its ++ its2) hH e (by simp) (r.append r2) ?_, rfl, q⟩
  rw [List.length_append]
  omega
/-! a[::-1], any a -/
theorem strIx_rev (n : Nat) : Builtin.Str.strSliceIndices none none (-1) n = (List.range n).reverse := by
  rw [← PySem.W.krv_range, ← PySem.W.krv_sliceRange]
  rfl
theorem str_rev (z : Str) : (⟨((Builtin.Str.strSliceIndices none none (-1) z.length).filterMap (z.cps[·]?)).toArray⟩ : Str) = ⟨z.cps.toList.reverse.toArray⟩ := by
  rw [strIx_rev, List.filterMap_reverse]
  congr 3
  exact PySem.W.krv_all z.cps
def tRevA (K : PySem.W.Frag) (te : TE) : TE := fun σ H Q => te σ H fun x H1 => (∃ a xs, x = .ref a ∧ SqL K H1 a xs ∧ ∀ p, H1 p = none → Q (.ref p) (upd H1 p (.lst xs.reverse))) ∨
  (∃ a xs, x = .ref a ∧ SqT K H1 a xs ∧ ∀ p, H1 p = none → Q (.ref p) (upd H1 p (.tup xs.reverse))) ∨ (∃ z : Str, x = .str z ∧ z.length ≤ sizeLine ∧ Q (.str ⟨z.cps.toList.reverse.toArray⟩) H1)
theorem pe_revA {X : Cx} {e : Expr} {te : TE} {k : Nat} {p1 p2 p3 pos : Pos} (he : PE X e te) : PE X (.Subscript e (.Slice none none (some (.UnaryOp .USub (.Constant (.int 1) k p1) p2)) p3) pos) (tRevA X.K te) := by
  refine ⟨fun pins s σ H Q I h => ?_⟩
  refine Subscript_ (thn (he.run pins s σ H _ I h) fun v s1 ⟨x, H1, I1, r1, q1⟩ => ?_)
  have hst : PO X (some (.UnaryOp .USub (.Constant (.int 1) k p1) p2)) (tPart (tUn (rU fun i => .int (-i)) (tC (.int 1)))) := po_some (pe_un un_neg pe_int)
  refine wpAny_Slice (thn (po_none.run pins s1 σ H1 (fun o H2 => o = none ∧ H2 = H1) I1 ⟨rfl, rfl⟩) fun vl s2 ⟨l, H2, I2, pl, el, e2⟩ => ?_)
  subst el e2
  refine thn (po_none.run pins s2 σ H2 (fun o H3 => o = none ∧ H3 = H2) I2 ⟨rfl, rfl⟩) fun vu s3 ⟨u, H3, I3, pu, eu, e3⟩ => ?_
  subst eu e3
  refine thn (hst.run pins s3 σ H3 (fun o H4 => o = some (-1) ∧ H4 = H3) I3 ⟨1, rfl, -1, rfl, rfl, rfl⟩) fun vs s4 ⟨o, H4, I4, ps, eo, e4⟩ => ?_
  subst eo e4
  have I5 : Inv X pins σ H4 { s4 with heap := s4.heap.push { cls := .type "slice", data := .fields #[vl, vu, vs] } } := I4.kept (t' := s4.toks) fun b ob q => Heap.get?_push_of_some _ q
  rcases q1 with ⟨a, xs, ex, hx, q⟩ | ⟨a, xs, ex, hx, q⟩ | ⟨z, ex, hz, q⟩
  · subst ex
    cases r1
    obtain ⟨its, r, ht, hz⟩ := I5.list hx
    have hlen := r.length
    show wpAny (model X.prog X.w) X.A (subscriptTail e (.Slice none none (some (.UnaryOp .USub (.Constant (.int 1) k p1) p2)) p3) (.ref a) (.ref s4.heap.objs.size)) (EP X pins σ Q) X.xe { s4 with heap := s4.heap.push { cls := .type "slice", data := .fields #[vl, vu, vs] } }
    refine tail_any (ops := [.ref a, .ref s4.heap.objs.size]) ht.isList.typeIs (PySem.slot_list_getitem.lookup) ?_ (by with_unfolding_all rfl)
    refine wpAny_getItem_list_slice ht.isList (Heap.IsSliceOf.new _ vl vu vs) pl pu ps (by decide) ?_ (by rw [List.size_toArray]; omega)
    rw [PySem.W.krv_pick]
    refine ⟨.ref _, _, I5.laid (t' := s4.toks) (o := .lst xs.reverse) (fun b ob q => Heap.get?_push_of_some _ q) (Nat.le_refl _) ?_, rfl, q _ (I5.hok.fresh (Nat.le_refl _))⟩
    exact ⟨by rw [List.length_reverse]; exact hz, _, 0, r.reverse, Heap.get?_push_size _ rfl⟩
  · subst ex
    cases r1
    cases pl
    cases pu
    obtain ⟨its, r, ht, hz⟩ := I5.tuple hx
    have hlen := r.length
    show wpAny (model X.prog X.w) X.A (subscriptTail e (.Slice none none (some (.UnaryOp .USub (.Constant (.int 1) k p1) p2)) p3) (.ref a) (.ref s4.heap.objs.size)) (EP X pins σ Q) X.xe { s4 with heap := s4.heap.push { cls := .type "slice", data := .fields #[.none, .none, vs] } }
    refine tail_any (ops := [.ref a, .ref s4.heap.objs.size]) ht.typeIs (PyProof.Rows.slot_tuple_getitem.lookup) ?_ (by with_unfolding_all rfl)
    refine getItem_tuple_rev ht (Heap.IsSliceOf.new _ .none .none vs) ps ?_ (by rw [List.size_toArray]; omega)
    refine ⟨.ref _, _, I5.laid (t' := s4.toks) (o := .tup xs.reverse) (fun b ob q => Heap.get?_push_of_some _ q) (Nat.le_refl _) ?_, rfl, q _ (I5.hok.fresh (Nat.le_refl _))⟩
    exact ⟨by rw [List.length_reverse]; exact hz, _, r.reverse, IsTup.new _ _⟩
  · subst ex
    obtain ⟨t, rfl⟩ := r1
    cases pl
    cases pu
    obtain ⟨t2, rfl⟩ : ∃ t2, vs = .int (-1) t2 := by cases ps; exact ⟨_, rfl⟩
    show wpAny (model X.prog X.w) X.A (subscriptTail e (.Slice none none (some (.UnaryOp .USub (.Constant (.int 1) k p1) p2)) p3) (.str z t) (.ref s4.heap.objs.size)) (EP X pins σ Q) X.xe { s4 with heap := s4.heap.push { cls := .type "slice", data := .fields #[.none, .none, .int (-1) t2] } }
    refine tail_any (ops := [.str z t, .ref s4.heap.objs.size]) (typeIs_str _ z t) (F.slot_str_getitem.lookup) ?_ (by with_unfolding_all rfl)
    refine wpAny_getItem_str_slice (l := none) (u := none) (st := some (-1, t2)) ⟨_, Heap.get?_push_size _ rfl, rfl, rfl⟩ rfl ?_
    have hm : sliceMade z t none none (some (-1, t2)) = .str ⟨z.cps.toList.reverse.toArray⟩ := by
      unfold sliceMade
      rw [if_neg (by simp)]
      exact congrArg Made.str (str_rev z)
    rw [hm]
    exact ⟨by show z.cps.toList.reverse.toArray.size ≤ _; rw [List.size_toArray, List.length_reverse, Array.length_toList]; exact hz, .str _, H4, I5.tok _, ⟨_, rfl⟩, q⟩
end Z
namespace Z
open PySem L2
/-! ### what stands for what -/
structure Wd where
  P : Program
  w : World
  K : PySem.W.Frag
  mg : Str → Option Value
  base : Heap
  pr : Prog
  F : Nat
  fa : Nat → Addr
  fd : Nat → FuncData
  ps : Nat → List Str
  ca : Nat → Addr
  ncl : Nat
  /-- the tables of code objects, with the names of what they hold -/
  T : List (Addr × Str)
def SqF (K : PySem.W.Frag) (H : Hp) (a : Addr) (vs : List V) : Prop := (∃ o, H a = some (.frz o (.lst vs))) ∨
  ∃ (o : Obj) (its : Array Value) (n : Nat), K.lookup a = some o ∧ o.cls = .type "list" ∧ o.dict = none ∧ o.data = .seq its n ∧ its.size ≤ sizeLine ∧ Vals vs its.toList
theorem SqF.l {K : PySem.W.Frag} {H : Hp} {a : Addr} {vs : List V} (h : SqF K H a vs) : SqL K H a vs := by
  rcases h with h | h
  · exact .inl (.inr h)
  · exact .inr h
mutual
def Rp (K : PySem.W.Frag) (H : Hp) (m : List Addr) : D → V → Prop
  | .non, v => v = .non
  | .bl b, v => v = .bl b
  | .int i, v => v = .int i
  | .str x, v => v = .str (sOf x)
  | .tup ds, v => ∃ a vs, v = .ref a ∧ SqT K H a vs ∧ Rps K H m ds vs
  | .loc n, v => ∃ a, m[n]? = some a ∧ v = .ref a
  | .fl ds, v => ∃ a vs, v = .ref a ∧ SqF K H a vs ∧ Rps K H m ds vs
def Rps (K : PySem.W.Frag) (H : Hp) (m : List Addr) : List D → List V → Prop
  | [], vs => vs = []
  | d :: ds, vs => ∃ v vs', vs = v :: vs' ∧ Rp K H m d v ∧ Rps K H m ds vs'
end
theorem Rps.len {K : PySem.W.Frag} {H : Hp} {m : List Addr} : ∀ {ds : List D} {vs : List V}, Rps K H m ds vs → vs.length = ds.length
  | [], vs, h => by rw [Rps] at h; subst h; rfl
  | d :: ds, vs, h => by
    rw [Rps] at h
    obtain ⟨v, vs', rfl, _, h⟩ := h
    rw [List.length_cons, List.length_cons, Rps.len h]
theorem Rps.get {K : PySem.W.Frag} {H : Hp} {m : List Addr} : ∀ {ds : List D} {vs : List V} {i : Nat} {d : D}, Rps K H m ds vs → ds[i]? = some d → ∃ v, vs[i]? = some v ∧ Rp K H m d v
  | [], _, _, _, _, e => by simp at e
  | d :: ds, vs, i, d', h, e => by
    rw [Rps] at h
    obtain ⟨v, vs', rfl, h1, h2⟩ := h
    cases i with
    | zero => simp at e; subst e; exact ⟨v, rfl, h1⟩
    | succ i => simpa using Rps.get h2 (by simpa using e)
theorem Rps.append {K : PySem.W.Frag} {H : Hp} {m : List Addr} : ∀ {ds es : List D} {vs us : List V}, Rps K H m ds vs → Rps K H m es us → Rps K H m (ds ++ es) (vs ++ us)
  | [], es, vs, us, h, g => by rw [Rps] at h; subst h; exact g
  | d :: ds, es, vs, us, h, g => by
    rw [Rps] at h
    obtain ⟨v, vs', rfl, h1, h2⟩ := h
    rw [List.cons_append, List.cons_append, Rps]
    exact ⟨v, _, rfl, h1, Rps.append h2 g⟩
theorem Rps.drop {K : PySem.W.Frag} {H : Hp} {m : List Addr} : ∀ (n : Nat) {ds : List D} {vs : List V}, Rps K H m ds vs → Rps K H m (ds.drop n) (vs.drop n)
  | 0, _, _, h => h
  | n + 1, [], vs, h => by rw [Rps] at h; subst h; simp [Rps]
  | n + 1, d :: ds, vs, h => by
    rw [Rps] at h
    obtain ⟨v, vs', rfl, h1, h2⟩ := h
    exact Rps.drop n h2
theorem Rps.take {K : PySem.W.Frag} {H : Hp} {m : List Addr} : ∀ (n : Nat) {ds : List D} {vs : List V}, Rps K H m ds vs → Rps K H m (ds.take n) (vs.take n)
  | 0, _, _, h => by simp [Rps]
  | n + 1, [], vs, h => by rw [Rps] at h; subst h; simp [Rps]
  | n + 1, d :: ds, vs, h => by
    rw [Rps] at h
    obtain ⟨v, vs', rfl, h1, h2⟩ := h
    rw [List.take_succ_cons, List.take_succ_cons, Rps]
    exact ⟨v, _, rfl, h1, Rps.take n h2⟩
theorem Rps.set {K : PySem.W.Frag} {H : Hp} {m : List Addr} {d : D} {v : V} (r : Rp K H m d v) : ∀ (n : Nat) {ds : List D} {vs : List V}, Rps K H m ds vs → Rps K H m (ds.set n d) (vs.set n v)
  | _, [], vs, h => by rw [Rps] at h; subst h; simp [Rps]
  | 0, e :: ds, vs, h => by
    rw [Rps] at h
    obtain ⟨u, vs', rfl, h1, h2⟩ := h
    simp only [List.set_cons_zero]; rw [Rps]
    exact ⟨v, _, rfl, r, h2⟩
  | n + 1, e :: ds, vs, h => by
    rw [Rps] at h
    obtain ⟨u, vs', rfl, h1, h2⟩ := h
    simp only [List.set_cons_succ]; rw [Rps]
    exact ⟨u, _, rfl, h1, Rps.set r n h2⟩
theorem Rps.erase {K : PySem.W.Frag} {H : Hp} {m : List Addr} : ∀ (n : Nat) {ds : List D} {vs : List V}, Rps K H m ds vs → Rps K H m (ds.eraseIdx n) (vs.eraseIdx n)
  | _, [], vs, h => by rw [Rps] at h; subst h; simp [Rps]
  | 0, e :: ds, vs, h => by
    rw [Rps] at h
    obtain ⟨u, vs', rfl, h1, h2⟩ := h
    simpa using h2
  | n + 1, e :: ds, vs, h => by
    rw [Rps] at h
    obtain ⟨u, vs', rfl, h1, h2⟩ := h
    simp only [List.eraseIdx_cons_succ]; rw [Rps]
    exact ⟨u, _, rfl, h1, Rps.erase n h2⟩
theorem Rps.rev {K : PySem.W.Frag} {H : Hp} {m : List Addr} : ∀ {ds : List D} {vs : List V}, Rps K H m ds vs → Rps K H m ds.reverse vs.reverse
  | [], vs, h => by rw [Rps] at h; subst h; simp [Rps]
  | d :: ds, vs, h => by
    rw [Rps] at h
    obtain ⟨v, vs', rfl, h1, h2⟩ := h
    rw [List.reverse_cons, List.reverse_cons]
    exact (Rps.rev h2).append (by rw [Rps]; exact ⟨v, [], rfl, h1, by rw [Rps]⟩)
theorem Rps.dropLast {K : PySem.W.Frag} {H : Hp} {m : List Addr} {ds : List D} {vs : List V} (h : Rps K H m ds vs) : Rps K H m ds.dropLast vs.dropLast := by
  rw [List.dropLast_eq_take, List.dropLast_eq_take, h.len]
  exact h.take _
theorem Rps.one {K : PySem.W.Frag} {H : Hp} {m : List Addr} {d : D} {v : V} (h : Rp K H m d v) : Rps K H m [d] [v] := by
  rw [Rps]; exact ⟨v, [], rfl, h, by rw [Rps]⟩

/-- what a dict holds -/
def Dent (K : PySem.W.Frag) (H : Hp) (m : List Addr) : List (D × D) → NdX → Prop
  | [], xs => xs = []
  | (k, d) :: r, xs => ∃ nk ka u v xs', xs = (nk, ka, u) :: xs' ∧ nkD k = some nk ∧ nk.depth ≤ 8 ∧ Rp K H m k (.ref ka) ∧ RelV v u ∧ Rp K H m d v ∧ Dent K H m r xs'
def kyD : D → Option Key
  | .int i => some (.inl i)
  | .str x => some (.inr (sOf x))
  | _ => none
def Dkt (K : PySem.W.Frag) (H : Hp) (m : List Addr) : List (D × D) → List (Key × V) → Prop
  | [], xs => xs = []
  | (k, d) :: r, xs => ∃ ky v xs', xs = (ky, v) :: xs' ∧ kyD k = some ky ∧ Rp K H m d v ∧ Dkt K H m r xs'
/-- the fields of an instance -/
def Fsr (K : PySem.W.Frag) (H : Hp) (m : List Addr) (fs : List (Str × D)) (gs : List (Str × V)) : Prop := gs.map (·.1) = fs.map (·.1) ∧ Rps K H m (fs.map (·.2)) (gs.map (·.2))
def CellOk (W : Wd) (H : Hp) (m : List Addr) (a : Addr) : Cell → Prop
  | .lst ds => ∃ vs, H a = some (.lst vs) ∧ Rps W.K H m ds vs
  | .ins c fs => ∃ dx gs, c < W.ncl ∧ H a = some (.ins (W.ca c) dx gs) ∧ Fsr W.K H m fs gs
  | .dct kvs => ∃ xs, H a = some (NdO W.P W.w a xs) ∧ Dent W.K H m kvs xs
  | .dck kvs => ∃ xs, H a = some (.dK xs) ∧ Dkt W.K H m kvs xs
/-- the tables stand, apart from the store -/
def TabZ (T : List (Addr × Str)) (H : Hp) (m : List Addr) : Prop := ∀ p ∈ T, ∃ ps : Array Value, H p.1 = some (.tbl ps) ∧ TriplesOk ps.toList ∧ ∀ (pos : Pos) (cv : Value), codeAmong pos ps.toList = some cv → ∃ c, cv = .ref c ∧ H c = some (LamX.CodeO c p.2) ∧ c ∉ m
structure Sim (W : Wd) (H : Hp) (m : List Addr) (st : Sto) : Prop where
  len : m.length = st.length
  nd : m.Nodup
  ok : ∀ (i : Nat) (c : Cell) (a : Addr), st[i]? = some c → m[i]? = some a → CellOk W H m a c
  tb : TabZ W.T H m
structure Ext (m m' : List Addr) (H H' : Hp) : Prop where
  pre : ∃ l, m' = m ++ l
  keep : ∀ a o, H a = some o → (∀ ps, o ≠ .tbl ps) → a ∉ m → H' a = some o ∧ a ∉ m'
theorem Ext.refl {m : List Addr} {H : Hp} : Ext m m H H := ⟨⟨[], by simp⟩, fun _ _ h _ n => ⟨h, n⟩⟩
theorem Ext.at {m m' : List Addr} {H H' : Hp} (e : Ext m m' H H') {i : Nat} {a : Addr} (h : m[i]? = some a) : m'[i]? = some a := by
  obtain ⟨l, rfl⟩ := e.pre
  rw [List.getElem?_append_left (List.getElem?_eq_some_iff.mp h).1]; exact h
theorem Ext.len {m m' : List Addr} {H H' : Hp} (e : Ext m m' H H') : m.length ≤ m'.length := by
  obtain ⟨l, rfl⟩ := e.pre
  rw [List.length_append]; omega
theorem Ext.trans {m m1 m2 : List Addr} {H H1 H2 : Hp} (a : Ext m m1 H H1) (b : Ext m1 m2 H1 H2) : Ext m m2 H H2 := by
  refine ⟨?_, fun x o h nt n => ?_⟩
  · obtain ⟨l, rfl⟩ := a.pre
    obtain ⟨l', rfl⟩ := b.pre
    exact ⟨l ++ l', by rw [List.append_assoc]⟩
  · obtain ⟨h1, n1⟩ := a.keep x o h nt n
    exact b.keep x o h1 nt n1
/-- what stands at a place of the store -/
def isM : HO → Bool
  | .lst _ => true | .ins _ _ _ => true | .ext _ => true | .dK _ => true
  | _ => false
theorem Sim.mu {W : Wd} {H : Hp} {m : List Addr} {st : Sto} (s : Sim W H m st) {a : Addr} (h : a ∈ m) : ∃ o, H a = some o ∧ isM o = true := by
  obtain ⟨i, hi⟩ := List.getElem?_of_mem h
  have hl : i < st.length := by rw [← s.len]; exact (List.getElem?_eq_some_iff.mp hi).1
  have q := s.ok i st[i] a (List.getElem?_eq_getElem hl) hi
  cases e : st[i] with
  | lst ds => rw [e] at q; obtain ⟨vs, h1, _⟩ := q; exact ⟨_, h1, rfl⟩
  | ins c fs => rw [e] at q; obtain ⟨dx, gs, _, h1, _⟩ := q; exact ⟨_, h1, rfl⟩
  | dct kvs => rw [e] at q; obtain ⟨xs, h1, _⟩ := q; exact ⟨_, h1, rfl⟩
  | dck kvs => rw [e] at q; obtain ⟨xs, h1, _⟩ := q; exact ⟨_, h1, rfl⟩
theorem Sim.nin {W : Wd} {H : Hp} {m : List Addr} {st : Sto} (s : Sim W H m st) {a : Addr} {o : HO} (h : H a = some o) (n : isM o = false) : a ∉ m := fun z => by
  obtain ⟨o', h', n'⟩ := s.mu z
  rw [h] at h'; cases h'; rw [n] at n'; cases n'
theorem TabZ.to {T : List (Addr × Str)} {H H' : Hp} {m m' : List Addr} (t : TabZ T H m) (e : ∀ b o, H b = some o → b ∉ m → (∀ vs, o ≠ .lst vs) → H' b = some o ∧ b ∉ m') (hm : ∀ p ∈ T, p.1 ∉ m) : TabZ T H' m' := fun p hp => by
  obtain ⟨ps, h1, h2, h3⟩ := t p hp
  refine ⟨ps, (e _ _ h1 (hm p hp) (fun _ z => HO.noConfusion z)).1, h2, fun pos cv hc => ?_⟩
  obtain ⟨c, e1, e2, e3⟩ := h3 pos cv hc
  obtain ⟨k1, k2⟩ := e _ _ e2 e3 (fun _ z => HO.noConfusion z)
  exact ⟨c, e1, k1, k2⟩
theorem Sim.tm {W : Wd} {H : Hp} {m : List Addr} {st : Sto} (s : Sim W H m st) : ∀ p ∈ W.T, p.1 ∉ m := fun p hp => by
  obtain ⟨ps, h1, _⟩ := s.tb p hp
  exact s.nin h1 rfl
theorem sqT_up {W : Wd} {H H' : Hp} {m m' : List Addr} {st : Sto} (s : Sim W H m st) (e : Ext m m' H H') {a : Addr} {vs : List V} (h : SqT W.K H a vs) : SqT W.K H' a vs := by
  rcases h with (h | ⟨o, h⟩) | h
  · exact .inl (.inl (e.keep a _ h (fun _ z => HO.noConfusion z) (s.nin h rfl)).1)
  · exact .inl (.inr ⟨o, (e.keep a _ h (fun _ z => HO.noConfusion z) (s.nin h rfl)).1⟩)
  · exact .inr h
theorem sqF_up {W : Wd} {H H' : Hp} {m m' : List Addr} {st : Sto} (s : Sim W H m st) (e : Ext m m' H H') {a : Addr} {vs : List V} (h : SqF W.K H a vs) : SqF W.K H' a vs := by
  rcases h with ⟨o, h⟩ | h
  · exact .inl ⟨o, (e.keep a _ h (fun _ z => HO.noConfusion z) (s.nin h rfl)).1⟩
  · exact .inr h
section
variable {K : PySem.W.Frag} {H H' : Hp} {m m' : List Addr}
mutual
theorem Rp.mono (ht : ∀ a vs, SqT K H a vs → SqT K H' a vs) (hf : ∀ a vs, SqF K H a vs → SqF K H' a vs) (hm : ∀ (n : Nat) (a : Addr), m[n]? = some a → m'[n]? = some a) : ∀ {d : D} {v : V}, Rp K H m d v → Rp K H' m' d v
  | .non, v, h => by rw [Rp] at h ⊢; exact h
  | .bl _, v, h => by rw [Rp] at h ⊢; exact h
  | .int _, v, h => by rw [Rp] at h ⊢; exact h
  | .str _, v, h => by rw [Rp] at h ⊢; exact h
  | .tup ds, v, h => by
    rw [Rp] at h ⊢
    obtain ⟨a, vs, rfl, h1, h2⟩ := h
    exact ⟨a, vs, rfl, ht a vs h1, Rps.mono ht hf hm h2⟩
  | .loc n, v, h => by
    rw [Rp] at h ⊢
    obtain ⟨a, h1, rfl⟩ := h
    exact ⟨a, hm n a h1, rfl⟩
  | .fl ds, v, h => by
    rw [Rp] at h ⊢
    obtain ⟨a, vs, rfl, h1, h2⟩ := h
    exact ⟨a, vs, rfl, hf a vs h1, Rps.mono ht hf hm h2⟩
theorem Rps.mono (ht : ∀ a vs, SqT K H a vs → SqT K H' a vs) (hf : ∀ a vs, SqF K H a vs → SqF K H' a vs) (hm : ∀ (n : Nat) (a : Addr), m[n]? = some a → m'[n]? = some a) : ∀ {ds : List D} {vs : List V}, Rps K H m ds vs → Rps K H' m' ds vs
  | [], vs, h => by rw [Rps] at h ⊢; exact h
  | d :: ds, vs, h => by
    rw [Rps] at h ⊢
    obtain ⟨v, vs', rfl, h1, h2⟩ := h
    exact ⟨v, vs', rfl, Rp.mono ht hf hm h1, Rps.mono ht hf hm h2⟩
end
end
section
variable {W : Wd} {H H' : Hp} {m m' : List Addr} {st : Sto}
theorem Rp.up (s : Sim W H m st) (e : Ext m m' H H') {d : D} {v : V} (h : Rp W.K H m d v) : Rp W.K H' m' d v := h.mono (fun _ _ => sqT_up s e) (fun _ _ => sqF_up s e) (fun _ _ => e.at)
theorem Rps.up (s : Sim W H m st) (e : Ext m m' H H') {ds : List D} {vs : List V} (h : Rps W.K H m ds vs) : Rps W.K H' m' ds vs := h.mono (fun _ _ => sqT_up s e) (fun _ _ => sqF_up s e) (fun _ _ => e.at)
theorem Dent.mono (ht : ∀ a vs, SqT W.K H a vs → SqT W.K H' a vs) (hf : ∀ a vs, SqF W.K H a vs → SqF W.K H' a vs) (hm : ∀ (n : Nat) (a : Addr), m[n]? = some a → m'[n]? = some a) : ∀ {kvs : List (D × D)} {xs : NdX}, Dent W.K H m kvs xs → Dent W.K H' m' kvs xs
  | [], xs, h => h
  | (k, d) :: r, xs, h => by
    obtain ⟨nk, ka, u, v, xs', h1, h2, h3, h4, h5, h6, h7⟩ := h
    exact ⟨nk, ka, u, v, xs', h1, h2, h3, h4.mono ht hf hm, h5, h6.mono ht hf hm, Dent.mono ht hf hm h7⟩
theorem Dkt.mono (ht : ∀ a vs, SqT W.K H a vs → SqT W.K H' a vs) (hf : ∀ a vs, SqF W.K H a vs → SqF W.K H' a vs) (hm : ∀ (n : Nat) (a : Addr), m[n]? = some a → m'[n]? = some a) : ∀ {kvs : List (D × D)} {xs : List (Key × V)}, Dkt W.K H m kvs xs → Dkt W.K H' m' kvs xs
  | [], xs, h => h
  | (k, d) :: r, xs, h => by
    obtain ⟨ky, v, xs', h1, h2, h6, h7⟩ := h
    exact ⟨ky, v, xs', h1, h2, h6.mono ht hf hm, Dkt.mono ht hf hm h7⟩
theorem Dent.up (s : Sim W H m st) (e : Ext m m' H H') {kvs : List (D × D)} {xs : NdX} (h : Dent W.K H m kvs xs) : Dent W.K H' m' kvs xs := h.mono (fun _ _ => sqT_up s e) (fun _ _ => sqF_up s e) (fun _ _ => e.at)
theorem Dkt.up (s : Sim W H m st) (e : Ext m m' H H') {kvs : List (D × D)} {xs : List (Key × V)} (h : Dkt W.K H m kvs xs) : Dkt W.K H' m' kvs xs := h.mono (fun _ _ => sqT_up s e) (fun _ _ => sqF_up s e) (fun _ _ => e.at)
theorem Fsr.up (s : Sim W H m st) (e : Ext m m' H H') {fs : List (Str × D)} {gs : List (Str × V)} (h : Fsr W.K H m fs gs) : Fsr W.K H' m' fs gs := ⟨h.1, Rps.up s e h.2⟩
theorem CellOk.up (s : Sim W H m st) (e : Ext m m' H H') {a : Addr} (ha : H' a = H a) {c : Cell} (h : CellOk W H m a c) : CellOk W H' m' a c := by
  cases c with
  | lst ds =>
    obtain ⟨vs, h1, h2⟩ := h
    exact ⟨vs, ha.trans h1, h2.up s e⟩
  | ins c fs =>
    obtain ⟨dx, gs, hc, h1, h2⟩ := h
    exact ⟨dx, gs, hc, ha.trans h1, h2.up s e⟩
  | dct kvs =>
    obtain ⟨xs, h1, h2⟩ := h
    exact ⟨xs, ha.trans h1, h2.up s e⟩
  | dck kvs =>
    obtain ⟨xs, h1, h2⟩ := h
    exact ⟨xs, ha.trans h1, h2.up s e⟩
/-- a new thing is laid, which the store doesn't hold -/
theorem Sim.laid (s : Sim W H m st) {p : Addr} (hp : H p = none) (o : HO) : Sim W (upd H p o) m st ∧ Ext m m H (upd H p o) := by
  have e : Ext m m H (upd H p o) := ⟨⟨[], by simp⟩, fun a u h _ n => ⟨by rw [upd_ne (ne_of_none h hp)]; exact h, n⟩⟩
  refine ⟨⟨s.len, s.nd, fun i c a h1 h2 => (s.ok i c a h1 h2).up s e ?_, s.tb.to (fun b u h n _ => ⟨by rw [upd_ne (ne_of_none h hp)]; exact h, n⟩) s.tm⟩, e⟩
  obtain ⟨u, hu, _⟩ := s.mu (List.mem_of_getElem? h2)
  exact upd_ne (ne_of_none hu hp)
/-- a new thing is laid, which the store holds -/
theorem Sim.push (s : Sim W H m st) {p : Addr} (hp : H p = none) {o : HO} {c : Cell} (hc : CellOk W (upd H p o) (m ++ [p]) p c) : Sim W (upd H p o) (m ++ [p]) (st ++ [c]) ∧ Ext m (m ++ [p]) H (upd H p o) := by
  have np : ∀ a ∈ m, a ≠ p := fun a ha z => by
    obtain ⟨u, hu, _⟩ := s.mu ha
    rw [z, hp] at hu; cases hu
  have e : Ext m (m ++ [p]) H (upd H p o) := ⟨⟨[p], rfl⟩, fun a u h _ n => ⟨by rw [upd_ne (ne_of_none h hp)]; exact h, by
    simp only [List.mem_append, List.mem_singleton, not_or]
    exact ⟨n, ne_of_none h hp⟩⟩⟩
  refine ⟨⟨by simp [s.len], ?_, fun i c' a h1 h2 => ?_, s.tb.to (fun b u h n _ => ⟨by rw [upd_ne (ne_of_none h hp)]; exact h, by
    simp only [List.mem_append, List.mem_singleton, not_or]
    exact ⟨n, ne_of_none h hp⟩⟩) s.tm⟩, e⟩
  · rw [List.nodup_append]
    refine ⟨s.nd, by simp, fun a ha b hb => ?_⟩
    simp only [List.mem_singleton] at hb
    rw [hb]; exact np a ha
  · by_cases hi : i < st.length
    · rw [List.getElem?_append_left hi] at h1
      rw [List.getElem?_append_left (by rw [s.len]; exact hi)] at h2
      exact (s.ok i c' a h1 h2).up s e (upd_ne (np a (List.mem_of_getElem? h2)))
    · have hi' : i = st.length := by
        have := (List.getElem?_eq_some_iff.mp h1).1
        simp at this; omega
      subst hi'
      rw [List.getElem?_append_right (Nat.le_refl _)] at h1
      rw [List.getElem?_append_right (by rw [s.len]; exact Nat.le_refl _)] at h2
      simp [s.len] at h1 h2
      subst h1; subst h2
      exact hc
/-- a thing of the store changes -/
theorem Sim.write (s : Sim W H m st) {n : Nat} {a : Addr} (ha : m[n]? = some a) {o : HO} {c : Cell} (hc : CellOk W (upd H a o) m a c) : Sim W (upd H a o) m (st.set n c) ∧ Ext m m H (upd H a o) := by
  have e : Ext m m H (upd H a o) := ⟨⟨[], by simp⟩, fun b u h _ nn => ⟨by
    rw [upd_ne fun z => nn (by rw [z]; exact List.mem_of_getElem? ha)]; exact h, nn⟩⟩
  refine ⟨⟨by simp [s.len], s.nd, fun i c' b h1 h2 => ?_, s.tb.to (fun b u h nn _ => ⟨by
    rw [upd_ne fun z => nn (by rw [z]; exact List.mem_of_getElem? ha)]; exact h, nn⟩) s.tm⟩, e⟩
  by_cases hi : i = n
  · subst hi
    rw [ha] at h2; cases h2
    rw [List.getElem?_set_self (by rw [← s.len]; exact (List.getElem?_eq_some_iff.mp ha).1)] at h1
    cases h1
    exact hc
  · rw [List.getElem?_set_ne (Ne.symm hi)] at h1
    refine (s.ok i c' b h1 h2).up s e (upd_ne fun z => hi ?_)
    subst z
    obtain ⟨h3, e3⟩ := List.getElem?_eq_some_iff.mp h2
    obtain ⟨h4, e4⟩ := List.getElem?_eq_some_iff.mp ha
    exact (List.getElem_inj s.nd).mp (e3.trans e4.symm)
theorem Sim.at (s : Sim W H m st) {n : Nat} {c : Cell} (h : st[n]? = some c) : ∃ a, m[n]? = some a ∧ CellOk W H m a c := by
  have hl : n < m.length := by rw [s.len]; exact (List.getElem?_eq_some_iff.mp h).1
  exact ⟨m[n], List.getElem?_eq_getElem hl, s.ok n c _ h (List.getElem?_eq_getElem hl)⟩
/-- a list that the store doesn't hold changes -/
theorem sqT_off {K : PySem.W.Frag} {D0 : Addr} {acc : List V} {o : HO} (hD : H D0 = some (.lst acc)) {a : Addr} {vs : List V} (h : SqT K H a vs) : SqT K (upd H D0 o) a vs := by
  rcases h with (h | ⟨u, h⟩) | h
  · exact .inl (.inl (by rw [upd_ne fun z => by rw [z, hD] at h; cases h]; exact h))
  · exact .inl (.inr ⟨u, by rw [upd_ne fun z => by rw [z, hD] at h; cases h]; exact h⟩)
  · exact .inr h
theorem sqF_off {K : PySem.W.Frag} {D0 : Addr} {acc : List V} {o : HO} (hD : H D0 = some (.lst acc)) {a : Addr} {vs : List V} (h : SqF K H a vs) : SqF K (upd H D0 o) a vs := by
  rcases h with ⟨u, h⟩ | h
  · exact .inl ⟨u, by rw [upd_ne fun z => by rw [z, hD] at h; cases h]; exact h⟩
  · exact .inr h
theorem Rp.off {K : PySem.W.Frag} {D0 : Addr} {acc : List V} {o : HO} (hD : H D0 = some (.lst acc)) {d : D} {v : V} (h : Rp K H m d v) : Rp K (upd H D0 o) m d v := h.mono (fun _ _ => sqT_off hD) (fun _ _ => sqF_off hD) fun _ _ z => z
theorem Rps.off {K : PySem.W.Frag} {D0 : Addr} {acc : List V} {o : HO} (hD : H D0 = some (.lst acc)) {d : List D} {v : List V} (h : Rps K H m d v) : Rps K (upd H D0 o) m d v := h.mono (fun _ _ => sqT_off hD) (fun _ _ => sqF_off hD) fun _ _ z => z
theorem Sim.off (s : Sim W H m st) {D0 : Addr} {acc : List V} {o : HO} (hD : H D0 = some (.lst acc)) (hn : D0 ∉ m) : Sim W (upd H D0 o) m st := by
  refine ⟨s.len, s.nd, fun i c a h1 h2 => ?_, s.tb.to (fun b u h nn nl => ⟨by rw [upd_ne fun z => by rw [z, hD] at h; cases h; exact nl _ rfl]; exact h, nn⟩) s.tm⟩
  have hne : a ≠ D0 := fun z => hn (by rw [← z]; exact List.mem_of_getElem? h2)
  have q := s.ok i c a h1 h2
  cases c with
  | lst ds =>
    obtain ⟨vs, h3, h4⟩ := q
    exact ⟨vs, by rw [upd_ne hne]; exact h3, h4.off hD⟩
  | ins c fs =>
    obtain ⟨dx, gs, hc, h3, h4⟩ := q
    exact ⟨dx, gs, hc, by rw [upd_ne hne]; exact h3, h4.1, h4.2.off hD⟩
  | dct kvs =>
    obtain ⟨xs, h3, h4⟩ := q
    exact ⟨xs, by rw [upd_ne hne]; exact h3, h4.mono (fun _ _ => sqT_off hD) (fun _ _ => sqF_off hD) fun _ _ z => z⟩
  | dck kvs =>
    obtain ⟨xs, h3, h4⟩ := q
    exact ⟨xs, by rw [upd_ne hne]; exact h3, h4.mono (fun _ _ => sqT_off hD) (fun _ _ => sqF_off hD) fun _ _ z => z⟩
theorem Ext.off {H1 : Hp} {m1 : List Addr} (e : Ext m1 m H1 H) {D0 : Addr} {o : HO} (hD : H1 D0 = none) : Ext m1 m H1 (upd H D0 o) := ⟨e.pre, fun a u h nt n => by
  obtain ⟨h2, n2⟩ := e.keep a u h nt n
  exact ⟨by rw [upd_ne (ne_of_none h hD)]; exact h2, n2⟩⟩
/-- it comes to be held -/
theorem Sim.adopt (s : Sim W H m st) {D0 : Addr} {vs : List V} {xs : List D} (hD : H D0 = some (.lst vs)) (hn : D0 ∉ m) (r : Rps W.K H m xs vs) : Sim W H (m ++ [D0]) (st ++ [.lst xs]) := by
  have upm : ∀ (n : Nat) (a : Addr), m[n]? = some a → (m ++ [D0])[n]? = some a := fun n a z => by
    rw [List.getElem?_append_left (List.getElem?_eq_some_iff.mp z).1]; exact z
  have up : ∀ {ds : List D} {us : List V}, Rps W.K H m ds us → Rps W.K H (m ++ [D0]) ds us := fun h => h.mono (fun _ _ z => z) (fun _ _ z => z) upm
  refine ⟨by simp [s.len], ?_, fun i c' a h1 h2 => ?_, s.tb.to (fun b u h nn nl => ⟨h, by
    simp only [List.mem_append, List.mem_singleton, not_or]
    exact ⟨nn, fun z => by rw [z, hD] at h; cases h; exact nl _ rfl⟩⟩) s.tm⟩
  · rw [List.nodup_append]
    refine ⟨s.nd, by simp, fun a ha b hb => ?_⟩
    simp only [List.mem_singleton] at hb
    rw [hb]; exact fun z => hn (by rw [← z]; exact ha)
  · by_cases hi : i < st.length
    · rw [List.getElem?_append_left hi] at h1
      rw [List.getElem?_append_left (by rw [s.len]; exact hi)] at h2
      have q := s.ok i c' a h1 h2
      cases c' with
      | lst ds => obtain ⟨us, h3, h4⟩ := q; exact ⟨us, h3, up h4⟩
      | ins c fs => obtain ⟨dx, gs, hc, h3, h4⟩ := q; exact ⟨dx, gs, hc, h3, h4.1, up h4.2⟩
      | dct kvs => obtain ⟨xs, h3, h4⟩ := q; exact ⟨xs, h3, h4.mono (fun _ _ z => z) (fun _ _ z => z) upm⟩
      | dck kvs => obtain ⟨xs, h3, h4⟩ := q; exact ⟨xs, h3, h4.mono (fun _ _ z => z) (fun _ _ z => z) upm⟩
    · have hi' : i = st.length := by
        have := (List.getElem?_eq_some_iff.mp h1).1
        simp at this; omega
      subst hi'
      rw [List.getElem?_append_right (Nat.le_refl _)] at h1
      rw [List.getElem?_append_right (by rw [s.len]; exact Nat.le_refl _)] at h2
      simp [s.len] at h1 h2
      subst h1; subst h2
      exact ⟨vs, hD, up r⟩
theorem Ext.adopt {H1 : Hp} {m1 : List Addr} (e : Ext m1 m H1 H) {D0 : Addr} (hD : H1 D0 = none) : Ext m1 (m ++ [D0]) H1 H := by
  refine ⟨?_, fun a u h nt n => ?_⟩
  · obtain ⟨l, rfl⟩ := e.pre
    exact ⟨l ++ [D0], by rw [List.append_assoc]⟩
  · obtain ⟨h2, n2⟩ := e.keep a u h nt n
    refine ⟨h2, ?_⟩
    simp only [List.mem_append, List.mem_singleton, not_or]
    exact ⟨n2, ne_of_none h hD⟩
end
end Z
namespace Z
open PySem L2
/-! ### what an answer promises -/
def ExR (W : Wd) (H : Hp) (m : List Addr) (e : Ex) (dx : Option Addr) : Prop := match e.f with
  | none => dx = none
  | some (f, d) => ∃ a v, dx = some a ∧ H a = some (.xd [(f, v)]) ∧ Rp W.K H m d v
def Pg {α : Type} (W : Wd) (E : XK) (m : List Addr) (H : Hp) (r : R α) (k : α → List Addr → Sto → Hp → Prop) : Prop := match r with
  | .ok a st => ∀ H' m', Ext m m' H H' → Sim W H' m' st → k a m' st H'
  | .exc e st => ∀ dx H' m', Ext m m' H H' → Sim W H' m' st → ExR W H' m' e dx → E (.ref (W.ca e.c)) dx H'
  | .stuck => False
/-- .. a value -/
def kD (W : Wd) (Q : VK) : D → List Addr → Sto → Hp → Prop := fun d m _ H => ∀ v, Rp W.K H m d v → Q v H
section
variable {W : Wd} {E : XK} {m m' : List Addr} {H H' : Hp} {α β : Type}
theorem Pg.up {r : R α} {k : α → List Addr → Sto → Hp → Prop} (e : Ext m m' H H') (h : Pg W E m H r k) : Pg W E m' H' r k := by
  cases r with
  | ok a st => exact fun H2 m2 e2 s2 => h H2 m2 (e.trans e2) s2
  | exc x st => exact fun dx H2 m2 e2 s2 => h dx H2 m2 (e.trans e2) s2
  | stuck => exact h
theorem Pg.bind {r : R α} {f : α → Sto → R β} {k : β → List Addr → Sto → Hp → Prop} (h : Pg W E m H (r.bind f) k) : Pg W E m H r fun a m' st' H' => Pg W E m' H' (f a st') k := by
  cases r with
  | ok a st => exact fun H2 m2 e2 s2 => Pg.up e2 h
  | exc x st => exact h
  | stuck => exact h
theorem Pg.imp {r : R α} {k k' : α → List Addr → Sto → Hp → Prop} (h : Pg W E m H r k) (q : ∀ a m' st' H', Ext m m' H H' → Sim W H' m' st' → k a m' st' H' → k' a m' st' H') : Pg W E m H r k' := by
  cases r with
  | ok a st => exact fun H2 m2 e2 s2 => q a m2 st H2 e2 s2 (h H2 m2 e2 s2)
  | exc x st => exact h
  | stuck => exact h
theorem Pg.now {a : α} {st : Sto} {k : α → List Addr → Sto → Hp → Prop} (h : Pg W E m H (.ok a st) k) (s : Sim W H m st) : k a m st H := h H m Ext.refl s
theorem Pg.go {a : α} {st : Sto} {k : α → List Addr → Sto → Hp → Prop} (h : Pg W E m H (.ok a st) k) (e : Ext m m' H H') (s : Sim W H' m' st) : k a m' st H' := h H' m' e s
theorem Pg.ite {c : Prop} [Decidable c] {a : R α} {k : α → List Addr → Sto → Hp → Prop} (h : Pg W E m H (if c then a else .stuck) k) : c ∧ Pg W E m H a k := by
  by_cases hc : c
  · rw [if_pos hc] at h; exact ⟨hc, h⟩
  · rw [if_neg hc] at h; exact h.elim
theorem Pg.ofO {o : Option α} {st : Sto} {f : α → Sto → R β} {k : β → List Addr → Sto → Hp → Prop} (h : Pg W E m H ((ofO st o).bind f) k) : ∃ a, o = some a ∧ Pg W E m H (f a st) k := by
  cases o with
  | some a => exact ⟨a, rfl, h⟩
  | none => exact h.elim
end

/-! ### names -/
def EnvR (W : Wd) (H : Hp) (m : List Addr) (ρ : Env) (σ : L2.St) : Prop := ρ.length = σ.length ∧ ∀ (i : Nat) (d : D), ρ[i]? = some (some d) → ∃ v, σ[i]? = some (some v) ∧ Rp W.K H m d v
section
variable {W : Wd} {m m' : List Addr} {H H' : Hp} {ρ : Env} {σ : L2.St} {st : Sto}
theorem EnvR.up (s : Sim W H m st) (e : Ext m m' H H') (h : EnvR W H m ρ σ) : EnvR W H' m' ρ σ := ⟨h.1, fun i d q => by
  obtain ⟨v, h1, h2⟩ := h.2 i d q
  exact ⟨v, h1, h2.up s e⟩⟩
theorem EnvR.set (h : EnvR W H m ρ σ) {i : Nat} {d : D} {v : V} (r : Rp W.K H m d v) : EnvR W H m (ρ.set i (some d)) (σ.set i (some v)) := by
  refine ⟨by simp [h.1], fun j e q => ?_⟩
  by_cases hj : j = i
  · subst hj
    have hl : j < ρ.length := by
      have := (List.getElem?_eq_some_iff.mp q).1
      simpa using this
    rw [List.getElem?_set_self hl] at q
    cases q
    exact ⟨v, by rw [List.getElem?_set_self (by rw [← h.1]; exact hl)], r⟩
  · rw [List.getElem?_set_ne (Ne.symm hj)] at q ⊢
    exact h.2 j e q
theorem EnvR.set_none (h : EnvR W H m ρ σ) {i : Nat} : EnvR W H m (ρ.set i none) (σ.set i none) := by
  refine ⟨by simp [h.1], fun j e q => ?_⟩
  by_cases hj : j = i
  · subst hj
    have hl : j < ρ.length := by
      have := (List.getElem?_eq_some_iff.mp q).1
      simpa using this
    rw [List.getElem?_set_self hl] at q
    cases q
  · rw [List.getElem?_set_ne (Ne.symm hj)] at q ⊢
    exact h.2 j e q
theorem EnvR.wipe (h : EnvR W H m ρ σ) : ∀ vs : List Nat, EnvR W H m (wipeE ρ vs) (L2.wipe σ vs)
  | [] => h
  | v :: vs => by
    unfold wipeE L2.wipe
    exact (EnvR.wipe h vs).set_none
end

/-! ### the readings -/
def tE (W : Wd) (E : XK) (f : Env → Sto → R D) : TE := fun σ H Q => ∃ m ρ st, Sim W H m st ∧ EnvR W H m ρ σ ∧ Pg W E m H (f ρ st) (kD W Q)
abbrev kB (Q : Bool → Hp → Prop) : Bool → List Addr → Sto → Hp → Prop := fun b _ _ H => Q b H
def tT (W : Wd) (E : XK) (f : Env → Sto → R Bool) : TT := fun σ H Q => ∃ m ρ st, Sim W H m st ∧ EnvR W H m ρ σ ∧ Pg W E m H (f ρ st) (kB Q)
def tA (W : Wd) (E : XK) (f : Env → Sto → R (List D)) : TA := fun σ H Q => ∃ m ρ st, Sim W H m st ∧ EnvR W H m ρ σ ∧ Pg W E m H (f ρ st) fun ds m' _ H' => ∀ vs, Rps W.K H' m' ds vs → Q vs H'
def tO (W : Wd) (E : XK) (f : Env → Sto → R (Option Int)) : TO := fun σ H Q => ∃ m ρ st, Sim W H m st ∧ EnvR W H m ρ σ ∧ Pg W E m H (f ρ st) fun o _ _ H' => Q o H'
theorem PE.weak {X : Cx} {e : Expr} {t t' : TE} (h : PE X e t) (q : ∀ σ H Q, t' σ H Q → t σ H Q) : PE X e t' := ⟨fun pins s σ H Q I w => h.run pins s σ H Q I (q σ H Q w)⟩
theorem PT.weak {X : Cx} {e : Expr} {t t' : TT} (h : PT X e t) (q : ∀ σ H Q, t' σ H Q → t σ H Q) : PT X e t' := ⟨fun pins s σ H Q I w => h.run pins s σ H Q I (q σ H Q w)⟩
theorem PW.weak {X : Cx} {e : Expr} {t t' : TT} (h : PW X e t) (q : ∀ σ H Q, t' σ H Q → t σ H Q) : PW X e t' := ⟨fun wh pins s σ H Q I w => h.run wh pins s σ H Q I (q σ H Q w)⟩
theorem PA.weak {X : Cx} {e : List Expr} {t t' : TA} (h : PA X e t) (q : ∀ σ H Q, t' σ H Q → t σ H Q) : PA X e t' := ⟨fun p pins s σ H Q I w => h.run p pins s σ H Q I (q σ H Q w)⟩
theorem PO.weak {X : Cx} {e : Option Expr} {t t' : TO} (h : PO X e t) (q : ∀ σ H Q, t' σ H Q → t σ H Q) : PO X e t' := ⟨fun pins s σ H Q I w => h.run pins s σ H Q I (q σ H Q w)⟩
theorem PS.weak {X : Cx} {e : Stmt} {t t' : TS} (h : PS X e t) (q : ∀ D σ H, t' D σ H → t D σ H) : PS X e t' := ⟨fun pins s σ H D I w => h.run pins s σ H D I (q D σ H w)⟩
theorem PSs.weak {X : Cx} {e : List Stmt} {t t' : TS} (h : PSs X e t) (q : ∀ D σ H, t' D σ H → t D σ H) : PSs X e t' := ⟨fun pins s σ H D I w => h.run pins s σ H D I (q D σ H w)⟩
section
variable {W : Wd} {E : XK} {f g : Env → Sto → R D} {σ : L2.St} {H : Hp}
/-- one operand, then something by its value -/
theorem tE.one {h : D → Sto → R D} {Q : VK} {k : V → Hp → Prop} (w : tE W E (fun ρ st => (f ρ st).bind h) σ H Q)
    (q : ∀ m st H d v, Sim W H m st → Rp W.K H m d v → Pg W E m H (h d st) (kD W Q) → k v H) : tE W E f σ H k := by
  obtain ⟨m, ρ, st, s, r, p⟩ := w
  exact ⟨m, ρ, st, s, r, p.bind.imp fun d m' st' H' _ s' p' v rv => q m' st' H' d v s' rv p'⟩
/-- two operands -/
theorem tE.two {h : D → D → Sto → R D} {Q : VK} {k : V → V → Hp → Prop} (w : tE W E (fun ρ st => (f ρ st).bind fun x st => (g ρ st).bind fun y st => h x y st) σ H Q)
    (q : ∀ m st H d v e u, Sim W H m st → Rp W.K H m d v → Rp W.K H m e u → Pg W E m H (h d e st) (kD W Q) → k v u H) : tE W E f σ H fun x H1 => tE W E g σ H1 fun y H2 => k x y H2 := by
  obtain ⟨m, ρ, st, s, r, p⟩ := w
  refine ⟨m, ρ, st, s, r, p.bind.imp fun d m1 st1 H1 e1 s1 p1 v rv => ?_⟩
  exact ⟨m1, ρ, st1, s1, r.up s e1, p1.bind.imp fun e m2 st2 H2 e2 s2 p2 u ru => q m2 st2 H2 d v e u s2 (rv.up s1 e2) ru p2⟩
end

/-! ### the operators by values -/
section
variable {W : Wd} {E : XK} {X : Cx} {m : List Addr} {H : Hp} {st : Sto} {Q : VK}
theorem lim_le {n : Nat} (h : n ≤ LIM) : n ≤ sizeLine := by rw [sizeLine_eq]; exact Nat.le_trans h (by decide)
theorem lim_lt {n : Nat} (h : n < LIM) : n < sizeLine := by rw [sizeLine_eq]; exact Nat.lt_of_lt_of_le h (by decide)
theorem sOf_len (x : Tx) : (sOf x).length = x.length := by show x.toArray.size = x.length; simp
theorem sOf_app (x y : Tx) : sOf x ++ sOf y = sOf (x ++ y) := by
  show Str.mk (x.toArray ++ y.toArray) = Str.mk (x ++ y).toArray
  simp
theorem kD_now {d : D} {v : V} (h : Pg W E m H (.ok d st) (kD W Q)) (s : Sim W H m st) (r : Rp W.K H m d v) : Q v H := h.now s v r
theorem Rp.tup_ref {K : PySem.W.Frag} {ds : List D} {v : V} (h : Rp K H m (.tup ds) v) : ∃ a vs, v = .ref a ∧ SqT K H a vs ∧ Rps K H m ds vs := by rw [Rp] at h; exact h
/-- a new tuple at p -/
theorem new_tup (s : Sim W H m st) {p : Addr} (hp : H p = none) {ds : List D} {vs : List V} (r : Rps W.K H m ds vs) (h : Pg W E m H (.ok (.tup ds) st) (kD W Q)) : Q (.ref p) (upd H p (.tup vs)) := by
  obtain ⟨s', e⟩ := s.laid hp (.tup vs)
  exact h.go e s' _ (by rw [Rp]; exact ⟨p, vs, rfl, SqT.of upd_same, r.up s e⟩)
/-- a new list at p -/
theorem new_lst (s : Sim W H m st) {p : Addr} (hp : H p = none) {ds : List D} {vs : List V} (r : Rps W.K H m ds vs) (h : Pg W E m H (.ok (.loc st.length) (st ++ [.lst ds])) (kD W Q)) : Q (.ref p) (upd H p (.lst vs)) := by
  have e0 : Ext m (m ++ [p]) H (upd H p (.lst vs)) := by
    refine ⟨⟨[p], rfl⟩, fun a u h _ n => ⟨by rw [upd_ne (ne_of_none h hp)]; exact h, ?_⟩⟩
    simp only [List.mem_append, List.mem_singleton, not_or]
    exact ⟨n, ne_of_none h hp⟩
  obtain ⟨s', e⟩ := s.push hp (c := .lst ds) (o := .lst vs) ⟨vs, upd_same, r.up s e0⟩
  refine h.go e s' (.ref p) ?_
  rw [Rp]
  refine ⟨p, ?_, rfl⟩
  rw [List.getElem?_append_right (by rw [s.len]; exact Nat.le_refl _), s.len]
  simp

/-- o by values -/
theorem foldl_cps (x : Str) : ∀ (n : Nat) (acc : Array Nat), ((List.replicate n x.cps).foldl (· ++ ·) acc).toList = acc.toList ++ (List.replicate n x.cps.toList).flatten
  | 0, acc => by simp
  | n + 1, acc => by rw [List.replicate_succ, List.foldl_cons, foldl_cps x n, List.replicate_succ, List.flatten_cons, Array.toList_append, List.append_assoc]
def rRepS : R2 := fun x y H Q => ∃ (z : Tx) (k : Int), x = .str (sOf z) ∧ y = .int k ∧ z ≠ [] ∧ 2 ≤ k ∧ k ≤ 1000 ∧ z.length ≤ 100 ∧ Q (.str (sOf (List.replicate k.toNat z).flatten)) H
theorem op_repS {X : Cx} : OpR X (binaryOp .Mult) rRepS := by
  intro pins s σ H x y v u Q I rx ry h
  obtain ⟨z, k, rfl, rfl, hz, h2, h3, hl, q⟩ := h
  obtain ⟨t, rfl⟩ := rx
  obtain ⟨t2, rfl⟩ := ry
  have hlen : (sOf z).length = z.length := by simp [sOf, Str.length]
  have h1 : ¬ k < 1 := by omega
  have h5 : (k == 1 || (sOf z).length == 0) = false := by
    rw [hlen]
    have : z.length ≠ 0 := by simpa using hz
    simp [this]; omega
  refine P.mul_str (by simp; omega) (fun _ _ => ?_) (fun _ _ => ?_) ?_
  · rw [hlen]
    have := Int.le_ediv_of_mul_le (a := (z.length : Int)) (b := 2 ^ 63 - 1) (c := k) (by omega) (by
      have : (z.length : Int) * k ≤ 100 * 1000 := Int.mul_le_mul (by omega) h3 (by omega) (by omega)
      omega)
    omega
  · rw [hlen]
    have h6 : z.length * k.toNat ≤ 100 * 1000 := Nat.mul_le_mul hl (by omega)
    unfold Builtin.Str.tooLong
    rw [sizeLine_eq]
    exact decide_eq_false (by omega)
  · rw [if_neg h1, if_neg (by rw [h5]; exact Bool.false_ne_true)]
    have e : (⟨(List.replicate k.toNat (sOf z).cps).foldl (· ++ ·) #[]⟩ : Str) = sOf (List.replicate k.toNat z).flatten := by
      unfold sOf
      congr 1
      apply Array.toList_inj.mp
      rw [foldl_cps ⟨z.toArray⟩]
      simp
    rw [e]
    refine ⟨?_, .str _, H, I.tok _, ⟨_, rfl⟩, q⟩
    show (List.replicate k.toNat z).flatten.toArray.size ≤ _
    rw [List.size_toArray, List.length_flatten, List.map_replicate, List.sum_replicate_nat, sizeLine_eq]
    have h6 : k.toNat * z.length ≤ 1000 * 100 := Nat.mul_le_mul (by omega) hl
    omega
def rBin (W : Wd) (o : BOp) : R2 := fun x y H Q => match o with
  | .add => (∃ i j, x = .int i ∧ y = .int j ∧ Q (.int (i + j)) H) ∨ (∃ i j, x = .str i ∧ y = .str j ∧ i.length + j.length ≤ sizeLine ∧ Q (.str (i ++ j)) H) ∨ rCatA W.K x y H Q ∨ rCat x y H Q
  | .sub => ∃ i j, x = .int i ∧ y = .int j ∧ Q (.int (i - j)) H
  | .mul => (∃ i j, x = .int i ∧ y = .int j ∧ CMul i j ∧ Q (.int (i * j)) H) ∨ rRepT W.K x y H Q ∨ rRepS x y H Q
  | .fdiv => ∃ i j, x = .int i ∧ y = .int j ∧ CDiv i j ∧ Q (.int (i / j)) H
  | .mod => ∃ i j, x = .int i ∧ y = .int j ∧ 0 < j ∧ Q (.int (i % j)) H
theorem op_rBin {o : BOp} {op : Operator} (h : opOk o op = true) (hK : X.K = W.K) : OpR X (binaryOp op) (rBin W o) := by
  cases o <;> cases op <;> simp [opOk] at h
  · have q := (op_add (X := X)).or ((op_add_str (X := X)).or ((op_catA (X := X)).or (op_cat (X := X))))
    rw [hK] at q
    exact q
  · exact op_sub
  · have q := (op_mul (X := X)).or ((op_repT (X := X)).or (op_repS (X := X)))
    rw [hK] at q
    exact q
  · exact op_fdiv
  · exact op_mod
theorem Rps.rep {K : PySem.W.Frag} {ds : List D} {vs : List V} (h : Rps K H m ds vs) : ∀ n : Nat, Rps K H m (List.replicate n ds).flatten (List.replicate n vs).flatten
  | 0 => by rw [List.replicate_zero, List.replicate_zero]; show Rps K H m [] []; rw [Rps]
  | n + 1 => by rw [List.replicate_succ, List.replicate_succ, List.flatten_cons, List.flatten_cons]; exact h.append (Rps.rep h n)
theorem bin_ok {o : BOp} {d e : D} {v u : V} (s : Sim W H m st) (r1 : Rp W.K H m d v) (r2 : Rp W.K H m e u) (h : Pg W E m H (binD o d e st) (kD W Q)) : rBin W o v u H Q := by
  unfold binD at h
  split at h
  · rw [Rp] at r1 r2; subst r1 r2
    exact .inl ⟨_, _, rfl, rfl, kD_now h s (by rw [Rp])⟩
  · obtain ⟨c, h⟩ := h.ite
    rw [Rp] at r1 r2; subst r1 r2
    exact .inr (.inl ⟨_, _, rfl, rfl, by rw [sOf_len, sOf_len]; exact lim_le c, kD_now h s (by rw [Rp, sOf_app])⟩)
  · obtain ⟨c, h⟩ := h.ite
    obtain ⟨a, vs, rfl, h1, h2⟩ := r1.tup_ref
    obtain ⟨b, us, rfl, g1, g2⟩ := r2.tup_ref
    refine .inr (.inr (.inl ⟨a, b, vs, us, rfl, rfl, h1, g1, by rw [h2.len, g2.len]; exact lim_le c, fun e => ?_, fun _ e => ?_, fun _ _ p hp => new_tup s hp (h2.append g2) h⟩))
    · subst e
      refine kD_now h s ?_
      have := h2.append g2
      rw [Rp]; exact ⟨b, us, rfl, g1, this⟩
    · subst e
      refine kD_now h s ?_
      have := h2.append g2
      rw [List.append_nil] at this
      rw [Rp]; exact ⟨a, vs, rfl, h1, this⟩
  · split at h
    · rename_i ha hb
      obtain ⟨c, h⟩ := h.ite
      obtain ⟨a, k1, vs, k2, k3⟩ := s.at ha
      obtain ⟨b, l1, us, l2, l3⟩ := s.at hb
      rw [Rp] at r1 r2
      obtain ⟨a', ea, rfl⟩ := r1
      obtain ⟨b', eb, rfl⟩ := r2
      rw [k1] at ea; cases ea
      rw [l1] at eb; cases eb
      exact .inr (.inr (.inr ⟨a, b, vs, us, rfl, rfl, k2, l2, by rw [k3.len, l3.len]; exact lim_le c, fun p hp => new_lst s hp (k3.append l3) h⟩))
    · exact h.elim
  · rw [Rp] at r1 r2; subst r1 r2
    exact ⟨_, _, rfl, rfl, kD_now h s (by rw [Rp])⟩
  · obtain ⟨c, h⟩ := h.ite
    rw [Rp] at r1 r2; subst r1 r2
    exact .inl ⟨_, _, rfl, rfl, c, kD_now h s (by rw [Rp])⟩
  · obtain ⟨c, h⟩ := h.ite
    simp only [Rp] at r1 r2; subst r1 r2
    exact .inr (.inr ⟨_, _, rfl, rfl, c.1, c.2.1, c.2.2.1, c.2.2.2, kD_now h s (by rw [Rp])⟩)
  · obtain ⟨c, h⟩ := h.ite
    obtain ⟨a, vs, rfl, h1, h2⟩ := r1.tup_ref
    rw [Rp] at r2; subst r2
    obtain ⟨c1, c2, c3, c4⟩ := c
    refine .inr (.inl ⟨a, _, vs, rfl, rfl, h1, fun z => c1 ?_, c2, c3, by rw [h2.len]; exact c4, fun p hp => new_tup s hp (Rps.rep h2 _) h⟩)
    have := h2.len
    rw [z] at this
    exact List.eq_nil_of_length_eq_zero this.symm
  · obtain ⟨c, h⟩ := h.ite
    rw [Rp] at r1 r2; subst r1 r2
    exact ⟨_, _, rfl, rfl, c, kD_now h s (by rw [Rp])⟩
  · obtain ⟨c, h⟩ := h.ite
    rw [Rp] at r1 r2; subst r1 r2
    exact ⟨_, _, rfl, rfl, c, kD_now h s (by rw [Rp])⟩
  · exact h.elim
end
end Z
namespace Z
open PySem L2
section
variable {W : Wd} {E : XK} {X : Cx} {m : List Addr} {H : Hp} {st : Sto} {Q : VK}
/-! ### comparisons by values -/
mutual
theorem toPW_ok {f : Nat → Option PyData} (hf : ∀ k p v, f k = some p → Rp W.K H m (.loc k) v → Dp W.K H v p) : ∀ {d : D} {p : PyData} {v : V}, toPW f d = some p → Rp W.K H m d v → Dp W.K H v p
  | .non, p, v, e, r => by rw [toPW] at e; rw [Rp] at r; cases e; subst r; exact .non
  | .bl b, p, v, e, r => by rw [toPW] at e; rw [Rp] at r; cases e; subst r; exact .bl b
  | .int b, p, v, e, r => by rw [toPW] at e; rw [Rp] at r; cases e; subst r; exact .int b
  | .str b, p, v, e, r => by rw [toPW] at e; rw [Rp] at r; cases e; subst r; exact .str _
  | .tup xs, p, v, e, r => by
    rw [toPW] at e
    obtain ⟨a, vs, rfl, h1, h2⟩ := r.tup_ref
    split at e
    · rename_i ps q
      cases e
      exact .tup h1 (toPWs_ok hf q h2)
    · cases e
  | .loc k, p, v, e, r => by rw [toPW] at e; exact hf k p v e r
  | .fl _, p, v, e, r => by rw [toPW] at e; cases e
theorem toPWs_ok {f : Nat → Option PyData} (hf : ∀ k p v, f k = some p → Rp W.K H m (.loc k) v → Dp W.K H v p) : ∀ {ds : List D} {ps : List PyData} {vs : List V}, toPWs f ds = some ps → Rps W.K H m ds vs → DpAll W.K H vs ps
  | [], ps, vs, e, r => by rw [toPWs] at e; rw [Rps] at r; cases e; subst r; exact .nil
  | d :: ds, ps, vs, e, r => by
    rw [toPWs] at e
    rw [Rps] at r
    obtain ⟨v, vs', rfl, h1, h2⟩ := r
    split at e
    · rename_i p ps q1 q2
      cases e
      exact .cons (toPW_ok hf q1 h1) (toPWs_ok hf q2 h2)
    · cases e
end
theorem toP_ok (s : Sim W H m st) : ∀ (n : Nat) {d : D} {p : PyData} {v : V}, toP st n d = some p → Rp W.K H m d v → Dp W.K H v p
  | 0, d, p, v, e, r => toPW_ok (f := fun _ => none) (fun k p v z => by cases z) e r
  | n + 1, d, p, v, e, r => by
    rw [toP] at e
    refine toPW_ok (fun k p v z rz => ?_) e r
    rw [Rp] at rz
    obtain ⟨a, ha, rfl⟩ := rz
    split at z
    · rename_i xs hx
      split at z
      · rename_i ps q
        cases z
        obtain ⟨b, hb, vs, h1, h2⟩ := s.at hx
        rw [ha] at hb; cases hb
        exact .lst (SqL.of h1) (toPWs_ok (fun k p v z' rz' => toP_ok s n z' rz') q h2)
      · cases z
    · cases z
def rEqM (K : PySem.W.Frag) (neg : Bool) : R2 := fun x y H Q => ∃ d e, Dp K H x d ∧ Dp K H y e ∧ d.canLay0 = true ∧ e.canLay0 = true ∧ min d.depth e.depth ≤ 64 ∧ Q (.bl (if neg then !PyData.eqv d e else PyData.eqv d e)) H
theorem op_eqM (hu : X.A.units + 64 < cLine) : OpR X (compareOp .Eq) (rEqM X.K false) := by
  intro pins s σ H x y v u Q I rx ry h
  obtain ⟨d, e, hd, he, sd, se, hm, q⟩ := h
  obtain ⟨as, r1⟩ := Dp.reads I d x v hd rx
  obtain ⟨bs, r2⟩ := Dp.reads I e y u he ry
  exact SeqAt.compareEq_reads r1 r2 sd se (by omega) ⟨.bl _, H, I, rfl, q⟩
theorem op_neM (hu : X.A.units + 64 < cLine) : OpR X (compareOp .NotEq) (rEqM X.K true) := by
  intro pins s σ H x y v u Q I rx ry h
  obtain ⟨d, e, hd, he, sd, se, hm, q⟩ := h
  obtain ⟨as, r1⟩ := Dp.reads I d x v hd rx
  obtain ⟨bs, r2⟩ := Dp.reads I e y u he ry
  exact SeqAt.compareNe_reads r1 r2 sd se (by omega) ⟨.bl _, H, I, rfl, q⟩
/-- with nothing on the right -/
def rEqE (K : PySem.W.Frag) (neg : Bool) : R2 := fun x y H Q => ∃ a b xs, x = .ref a ∧ y = .ref b ∧ ((SqT K H a xs ∧ SqT K H b []) ∨ (SqL K H a xs ∧ SqL K H b [])) ∧ Q (.bl (if neg then !xs.isEmpty else xs.isEmpty)) H
theorem op_eqE (hu : X.A.units < cLine) : OpR X (compareOp .Eq) (rEqE X.K false) := by
  intro pins s σ H x y v u Q I rx ry h
  obtain ⟨a, b, xs, rfl, rfl, h, q⟩ := h
  cases rx; cases ry
  rcases h with ⟨h1, h2⟩ | ⟨h1, h2⟩
  · obtain ⟨its, r1, p1, _⟩ := I.tuple h1
    obtain ⟨its2, r2, p2, _⟩ := I.tuple h2
    cases r2
    have z := SeqAt.RcAt.tuples (e := fun _ => true) (show s.heap.IsTuple a its.toArray from p1) (show s.heap.IsTuple b ([] : List Value).toArray from p2) hu (fun j h1 h2 => absurd h2 (by simp))
    refine z _ _ _ _ ⟨.bl _, H, I, ?_, q⟩
    cases r1 <;> rfl
  · obtain ⟨its, r1, p1, _⟩ := I.list h1
    obtain ⟨its2, r2, p2, _⟩ := I.list h2
    cases r2
    cases r1 with
    | nil =>
      have z := SeqAt.RcAt.lists (e := fun _ => true) p1.isList p2.isList rfl hu (fun j h1 h2 => absurd h2 (by simp))
      exact z _ _ _ _ ⟨.bl _, H, I, rfl, q⟩
    | cons r rs =>
      have z := SeqAt.RcAt.lists_lengths p1.isList p2.isList (by simp) hu
      exact z _ _ _ _ ⟨.bl _, H, I, rfl, q⟩
theorem op_neE (hu : X.A.units < cLine) : OpR X (compareOp .NotEq) (rEqE X.K true) := by
  intro pins s σ H x y v u Q I rx ry h
  obtain ⟨a, b, xs, rfl, rfl, h, q⟩ := h
  cases rx; cases ry
  rcases h with ⟨h1, h2⟩ | ⟨h1, h2⟩
  · obtain ⟨its, r1, p1, _⟩ := I.tuple h1
    obtain ⟨its2, r2, p2, _⟩ := I.tuple h2
    cases r2
    have z := SeqAt.RcNeAt.tuples (e := fun _ => true) (show s.heap.IsTuple a its.toArray from p1) (show s.heap.IsTuple b ([] : List Value).toArray from p2) hu (fun j h1 h2 => absurd h2 (by simp))
    refine z _ _ _ _ ⟨.bl _, H, I, ?_, q⟩
    cases r1 <;> rfl
  · obtain ⟨its, r1, p1, _⟩ := I.list h1
    obtain ⟨its2, r2, p2, _⟩ := I.list h2
    cases r2
    cases r1 with
    | nil =>
      have z := SeqAt.RcNeAt.lists (e := fun _ => true) p1.isList p2.isList rfl hu (fun j h1 h2 => absurd h2 (by simp))
      exact z _ _ _ _ ⟨.bl _, H, I, rfl, q⟩
    | cons r rs =>
      have z := SeqAt.RcNeAt.lists_lengths p1.isList p2.isList (by simp) hu
      exact z _ _ _ _ ⟨.bl _, H, I, rfl, q⟩
def rEqA (K : PySem.W.Frag) (neg : Bool) : R2 := fun x y H Q => rEqM K neg x y H Q ∨ ((scal x y = true ∧ Q (.bl (if neg then !decide (x = y) else decide (x = y))) H) ∨ rEqE K neg x y H Q)
theorem op_eqA (hu : X.A.units + 64 < cLine) : OpR X (compareOp .Eq) (rEqA X.K false) := (op_eqM hu).or ((op_eq (X := X)).or (op_eqE (by omega)))
theorem op_neA (hu : X.A.units + 64 < cLine) : OpR X (compareOp .NotEq) (rEqA X.K true) := (op_neM hu).or ((op_ne (X := X)).or (op_neE (by omega)))
theorem isEmpty_rel {xs : List D} {vs : List V} (h : Rps W.K H m xs vs) : vs.isEmpty = xs.isEmpty := by
  have := h.len
  cases xs <;> cases vs <;> simp_all
theorem sOf_inj {x y : Tx} (h : sOf x = sOf y) : x = y := by
  unfold sOf at h
  injection h with h
  exact congrArg Array.toList h
theorem eqD_ok {neg : Bool} {a b : D} {v u : V} (s : Sim W H m st) (r1 : Rp W.K H m a v) (r2 : Rp W.K H m b u)
    (h : Pg W E m H ((ofO st (eqD st a b)).bind fun r st => .ok (.bl (if neg then !r else r)) st) (kD W Q)) : rEqA W.K neg v u H Q := by
  obtain ⟨r, e, h⟩ := h.ofO
  have gen : ∀ {a b : D} {v u : V}, Rp W.K H m a v → Rp W.K H m b u → eqG st a b = some r → rEqA W.K neg v u H Q := fun {a b v u} r1 r2 e => by
    unfold eqG at e
    split at e
    · rename_i p q hp hq
      split at e
      · rename_i c
        cases e
        exact .inl ⟨p, q, toP_ok s 2 hp r1, toP_ok s 2 hq r2, c.1, c.2.1, c.2.2, kD_now h s (by rw [Rp])⟩
      · cases e
    · cases e
  unfold eqD at e
  split at e
  · rw [Rp] at r1 r2; subst r1 r2; cases e
    refine .inr (.inl ⟨rfl, ?_⟩)
    have z : ∀ i j : Int, decide (V.int i = V.int j) = decide (i = j) := fun i j => by by_cases e : i = j <;> simp [e]
    rw [z]
    exact kD_now h s (by rw [Rp])
  · rw [Rp] at r1 r2; subst r1 r2; cases e
    refine .inr (.inl ⟨rfl, ?_⟩)
    have z : ∀ i j : Tx, decide (V.str (sOf i) = V.str (sOf j)) = decide (i = j) := fun i j => by
      by_cases e : i = j
      · subst e; simp
      · have : ¬ V.str (sOf i) = V.str (sOf j) := fun q => e (sOf_inj (by injection q))
        simp [e, this]
    rw [z]
    exact kD_now h s (by rw [Rp])
  · rw [Rp] at r1 r2; subst r1 r2; cases e
    refine .inr (.inl ⟨rfl, ?_⟩)
    have z : ∀ i j : Bool, decide (V.bl i = V.bl j) = decide (i = j) := fun i j => by by_cases e : i = j <;> simp [e]
    rw [z]
    exact kD_now h s (by rw [Rp])
  · cases e
    obtain ⟨a, vs, rfl, h1, h2⟩ := r1.tup_ref
    obtain ⟨b, us, rfl, g1, g2⟩ := r2.tup_ref
    rw [Rps] at g2; subst g2
    exact .inr (.inr ⟨a, b, vs, rfl, rfl, .inl ⟨h1, g1⟩, by rw [isEmpty_rel h2]; exact kD_now h s (by rw [Rp])⟩)
  · split at e
    · rename_i hx hy
      cases e
      obtain ⟨b1, hb1, vs, h1, h2⟩ := s.at hx
      obtain ⟨b2, hb2, us, g1, g2⟩ := s.at hy
      rw [Rps] at g2; subst g2
      rw [Rp] at r1 r2
      obtain ⟨a1, ha1, rfl⟩ := r1
      obtain ⟨a2, ha2, rfl⟩ := r2
      rw [hb1] at ha1; cases ha1
      rw [hb2] at ha2; cases ha2
      exact .inr (.inr ⟨_, _, vs, rfl, rfl, .inr ⟨SqL.of h1, SqL.of g1⟩, by rw [isEmpty_rel h2]; exact kD_now h s (by rw [Rp])⟩)
    · exact gen r1 r2 e
  · exact gen r1 r2 e
/-! ### among them -/
def rInM (K : PySem.W.Frag) (neg : Bool) : R2 := fun x y H Q => ∃ d ds, Dp K H x d ∧ (Dp K H y (.list ds) ∨ Dp K H y (.tuple ds)) ∧ SeqAt.shaped d = true ∧ SeqAt.shaped (.tuple ds) = true ∧ Q (.bl (if neg then !(ds.any fun z => PyData.eqv z d) else ds.any fun z => PyData.eqv z d)) H
theorem op_inM (hu : X.A.units + 65 < cLine) : OpR X (compareOp .In) (rInM X.K false) := by
  intro pins s σ H x y v u Q I rx ry h
  obtain ⟨d, ds, hd, he, sd, se, q⟩ := h
  obtain ⟨as, r1⟩ := Dp.reads I d x v hd rx
  have hr : X.A.units + 1 + min (PyData.depthAll ds) d.depth < cLine := by
    have h1 := SeqAt.depth_of_shaped sd
    have h2 : min (PyData.depthAll ds) d.depth ≤ d.depth := Nat.min_le_right _ _
    omega
  rcases he with he | he
  · obtain ⟨bs, r2⟩ := Dp.reads I _ y u he ry
    exact SeqAt.in_list_reads r2 r1 (SeqAt.canLay_of_shaped se) (SeqAt.canLay_of_shaped sd) hr ⟨.bl _, H, I, rfl, q⟩
  · obtain ⟨bs, r2⟩ := Dp.reads I _ y u he ry
    exact SeqAt.in_tuple_reads r2 r1 (SeqAt.canLay_of_shaped se) (SeqAt.canLay_of_shaped sd) hr ⟨.bl _, H, I, rfl, q⟩
theorem op_notInM (hu : X.A.units + 65 < cLine) : OpR X (compareOp .NotIn) (rInM X.K true) := by
  intro pins s σ H x y v u Q I rx ry h
  obtain ⟨d, ds, hd, he, sd, se, q⟩ := h
  obtain ⟨as, r1⟩ := Dp.reads I d x v hd rx
  have hr : X.A.units + 1 + min (PyData.depthAll ds) d.depth < cLine := by
    have h1 := SeqAt.depth_of_shaped sd
    have h2 : min (PyData.depthAll ds) d.depth ≤ d.depth := Nat.min_le_right _ _
    omega
  rcases he with he | he
  · obtain ⟨bs, r2⟩ := Dp.reads I _ y u he ry
    exact SeqAt.notIn_list_reads r2 r1 (SeqAt.canLay_of_shaped se) (SeqAt.canLay_of_shaped sd) hr ⟨.bl _, H, I, rfl, q⟩
  · obtain ⟨bs, r2⟩ := Dp.reads I _ y u he ry
    exact SeqAt.notIn_tuple_reads r2 r1 (SeqAt.canLay_of_shaped se) (SeqAt.canLay_of_shaped sd) hr ⟨.bl _, H, I, rfl, q⟩
def rDkIn (neg : Bool) : R2 := fun x y H Q => ∃ a o, y = .ref a ∧ DGet H a x o ∧ Q (.bl (if neg then !o.isSome else o.isSome)) H
theorem op_dkIn (hu : X.A.units + 1 < cLine) : OpR X (compareOp .In) (rDkIn false) := by
  intro pins s σ H x y v u Q I rx ry h
  obtain ⟨a, o, rfl, g, q⟩ := h
  obtain rfl : u = Value.ref a := ry
  exact d_in hu I g rx fun s3 I3 => ⟨.bl _, H, I3, rfl, q⟩
theorem op_dkNotIn (hu : X.A.units + 1 < cLine) : OpR X (compareOp .NotIn) (rDkIn true) := by
  intro pins s σ H x y v u Q I rx ry h
  obtain ⟨a, o, rfl, g, q⟩ := h
  obtain rfl : u = Value.ref a := ry
  exact d_notIn hu I g rx fun s3 I3 => ⟨.bl _, H, I3, rfl, q⟩
def rSgn (neg : Bool) : R2 := fun x y H Q => ∃ (c : Nat) (z : Str), x = .str ⟨#[c]⟩ ∧ y = .str z ∧ Q (.bl (if neg then !decide (c ∈ z.cps.toList) else decide (c ∈ z.cps.toList))) H
def rMem (W : Wd) (neg : Bool) : R2 := fun x y H Q => rSgn neg x y H Q ∨ (rInM W.K neg x y H Q ∨ (rNdIn W.P W.w W.K neg x y H Q ∨ rDkIn neg x y H Q))
theorem op_rMem (hP : X.prog = W.P) (hw : X.w = W.w) (hK : X.K = W.K) (hu : X.A.units + 100 < cLine) : OpR X (compareOp .In) (rMem W false) := by
  have q1 : OpR X (compareOp .In) (rSgn false) := op_in_sign
  have q := q1.or ((op_inM (X := X) (by omega)).or ((op_ndIn (X := X) (by omega)).or (op_dkIn (X := X) (by omega))))
  rw [hK, hP, hw] at q
  exact q
theorem op_rNMem (hP : X.prog = W.P) (hw : X.w = W.w) (hK : X.K = W.K) (hu : X.A.units + 100 < cLine) : OpR X (compareOp .NotIn) (rMem W true) := by
  have q1 : OpR X (compareOp .NotIn) (rSgn true) := op_notIn_sign
  have q := q1.or ((op_notInM (X := X) (by omega)).or ((op_ndNotIn (X := X) (by omega)).or (op_dkNotIn (X := X) (by omega))))
  rw [hK, hP, hw] at q
  exact q
/-! keys -/
mutual
theorem nkD_py : ∀ {d : D} {k : NestedKey}, nkD d = some k → toPW (fun _ => none) d = some (pyNk k)
  | .non, k, h => by rw [nkD] at h; cases h; rfl
  | .int i, k, h => by rw [nkD] at h; cases h; rfl
  | .str x, k, h => by rw [nkD] at h; cases h; rfl
  | .tup ds, k, h => by
    rw [nkD] at h
    split at h
    · rename_i ks e
      cases h
      rw [toPW, nkDs_py e, pyNk]
    · cases h
  | .bl b, k, h => by simp [nkD] at h
  | .loc b, k, h => by simp [nkD] at h
  | .fl b, k, h => by simp [nkD] at h
theorem nkDs_py : ∀ {ds : List D} {ks : List NestedKey}, nkDs ds = some ks → toPWs (fun _ => none) ds = some (pyNks ks)
  | [], ks, h => by rw [nkDs] at h; cases h; rw [toPWs, pyNks]
  | d :: ds, ks, h => by
    rw [nkDs] at h
    split at h
    · rename_i k ks' e1 e2
      cases h
      rw [toPWs, nkD_py e1, nkDs_py e2, pyNks]
    · cases h
end
mutual
theorem nkD_inj : ∀ {d e : D} {k : NestedKey}, nkD d = some k → nkD e = some k → d = e
  | .non, e, k, h, g => by rw [nkD] at h; cases h; cases e <;> simp [nkD] at g; rfl; split at g <;> cases g
  | .int i, e, k, h, g => by
    rw [nkD] at h; cases h
    cases e <;> simp [nkD] at g
    · rw [g]
    · split at g <;> cases g
  | .str x, e, k, h, g => by
    rw [nkD] at h; cases h
    cases e <;> simp [nkD] at g
    · rw [sOf_inj g]
    · split at g <;> cases g
  | .tup ds, e, k, h, g => by
    rw [nkD] at h
    split at h
    · rename_i ks e1
      cases h
      cases e <;> simp [nkD] at g
      split at g
      · rename_i ks' e2
        cases g
        rw [nkDs_inj e1 e2]
      · cases g
    · cases h
  | .bl b, e, k, h, g => by simp [nkD] at h
  | .loc b, e, k, h, g => by simp [nkD] at h
  | .fl b, e, k, h, g => by simp [nkD] at h
theorem nkDs_inj : ∀ {ds es : List D} {ks : List NestedKey}, nkDs ds = some ks → nkDs es = some ks → ds = es
  | [], es, ks, h, g => by
    rw [nkDs] at h; cases h
    cases es with
    | nil => rfl
    | cons e es => rw [nkDs] at g; split at g <;> cases g
  | d :: ds, es, ks, h, g => by
    rw [nkDs] at h
    split at h
    · rename_i k ks' e1 e2
      cases h
      cases es with
      | nil => rw [nkDs] at g; cases g
      | cons e es =>
        rw [nkDs] at g
        split at g
        · rename_i k' ks'' g1 g2
          cases g
          rw [nkD_inj e1 g1, nkDs_inj e2 g2]
        · cases g
    · cases h
end
theorem keyT_ok {d : D} {v : V} (h : keyT d = true) (r : Rp W.K H m d v) : ∃ b k, v = .ref b ∧ nkD d = some k ∧ k.depth ≤ 8 ∧ Dp W.K H (.ref b) (pyNk k) := by
  unfold keyT at h
  split at h
  · split at h
    · rename_i k e
      have hd := of_decide_eq_true h
      have r0 := r
      obtain ⟨a, vs, rfl, _, _⟩ := r0.tup_ref
      exact ⟨a, k, rfl, e, hd, toPW_ok (f := fun _ => none) (fun k p v z => by cases z) (nkD_py e) r⟩
    · cases h
  · cases h
theorem Dent.keys : ∀ {kvs : List (D × D)} {xs : NdX}, Dent W.K H m kvs xs → NdKs W.K H xs
  | [], xs, h => by
    have h : xs = [] := h
    subst h
    intro x hx; cases hx
  | (k, d) :: r, xs, h => by
    obtain ⟨nk, ka, u, v, xs', rfl, h2, h3, h4, h5, h6, h7⟩ := h
    intro x hx
    rcases List.mem_cons.mp hx with rfl | hx
    · exact ⟨toPW_ok (f := fun _ => none) (fun k p v z => by cases z) (nkD_py h2) h4, h3⟩
    · exact Dent.keys h7 x hx
theorem Dent.get {k : D} {nk : NestedKey} (hk : nkD k = some nk) : ∀ {kvs : List (D × D)} {xs : NdX}, Dent W.K H m kvs xs →
    (∀ d, dGet kvs k = some d → ∃ ka u v, atKey xs nk = some (ka, u) ∧ RelV v u ∧ Rp W.K H m d v) ∧ (dGet kvs k = none → atKey xs nk = none)
  | [], xs, h => by
    have h : xs = [] := h
    subst h
    exact ⟨fun d e => (by cases e), fun _ => rfl⟩
  | (k1, d1) :: r, xs, h => by
    obtain ⟨nk1, ka, u, v, xs', rfl, h2, h3, h4, h5, h6, h7⟩ := h
    by_cases e : k1 = k
    · subst e
      rw [hk] at h2; cases h2
      refine ⟨fun d e => ?_, fun e => ?_⟩
      · simp [dGet] at e
        subst e
        exact ⟨ka, u, v, by simp [atKey], h5, h6⟩
      · simp [dGet] at e
    · have e' : ¬ nk1 = nk := fun z => e (nkD_inj h2 (by rw [hk, z]))
      have ih := Dent.get hk h7
      have q1 : dGet ((k1, d1) :: r) k = dGet r k := by simp [dGet, e]
      have q2 : atKey ((nk1, ka, u) :: xs') nk = atKey xs' nk := by simp [atKey, e']
      rw [q1, q2]
      exact ih
theorem Dent.put {k d : D} {nk : NestedKey} {b : Addr} {v : V} {u : Value} (hk : nkD k = some nk) (hd : nk.depth ≤ 8) (rk : Rp W.K H m k (.ref b)) (rv : RelV v u) (rd : Rp W.K H m d v) {kvs : List (D × D)} {xs : NdX} (h : Dent W.K H m kvs xs) :
    Dent W.K H m (dPut kvs k d) (storedH xs nk b u) := by
  have hm : ∀ {kvs : List (D × D)} {xs : NdX}, Dent W.K H m kvs xs → Dent W.K H m (kvs.map fun p => if p.1 = k then (p.1, d) else p) (xs.map (putAt nk u)) := by
    intro kvs
    induction kvs with
    | nil => intro xs h; have h : xs = [] := h; subst h; rfl
    | cons p r ih =>
      obtain ⟨k1, d1⟩ := p
      intro xs h
      obtain ⟨nk1, ka, u1, v1, xs', rfl, h2, h3, h4, h5, h6, h7⟩ := h
      rw [List.map_cons, List.map_cons]
      by_cases e : k1 = k
      · subst e
        rw [hk] at h2; cases h2
        rw [if_pos rfl, show putAt nk u (nk, ka, u1) = (nk, ka, u) by simp [putAt]]
        exact ⟨nk, ka, u, v, _, rfl, hk, h3, h4, rv, rd, ih h7⟩
      · have e' : ¬ nk1 = nk := fun z => e (nkD_inj h2 (by rw [hk, z]))
        rw [if_neg e, show putAt nk u (nk1, ka, u1) = (nk1, ka, u1) by simp [putAt, e']]
        exact ⟨nk1, ka, u1, v1, _, rfl, h2, h3, h4, h5, h6, ih h7⟩
  have ha : ∀ {kvs : List (D × D)} {xs : NdX}, Dent W.K H m kvs xs → Dent W.K H m (kvs ++ [(k, d)]) (xs ++ [(nk, b, u)]) := by
    intro kvs
    induction kvs with
    | nil => intro xs h; have h : xs = [] := h; subst h; exact ⟨nk, b, u, v, [], rfl, hk, hd, rk, rv, rd, rfl⟩
    | cons p r ih =>
      obtain ⟨k1, d1⟩ := p
      intro xs h
      obtain ⟨nk1, ka, u1, v1, xs', rfl, h2, h3, h4, h5, h6, h7⟩ := h
      exact ⟨nk1, ka, u1, v1, _, rfl, h2, h3, h4, h5, h6, ih h7⟩
  obtain ⟨g1, g2⟩ := h.get hk
  unfold dPut storedH
  cases q : dGet kvs k with
  | some d0 =>
    obtain ⟨ka, u0, v0, z, _⟩ := g1 d0 q
    rw [z]
    exact hm h
  | none =>
    rw [g2 q]
    exact ha h
theorem Dent.len : ∀ {kvs : List (D × D)} {xs : NdX}, Dent W.K H m kvs xs → xs.length = kvs.length
  | [], xs, h => by have h : xs = [] := h; subst h; rfl
  | (k, d) :: r, xs, h => by
    obtain ⟨nk, ka, u, v, xs', rfl, h2, h3, h4, h5, h6, h7⟩ := h
    rw [List.length_cons, List.length_cons, Dent.len h7]
theorem kyD_inj {d e : D} {k : Key} (h : kyD d = some k) (g : kyD e = some k) : d = e := by
  cases d <;> simp [kyD] at h <;> cases e <;> simp [kyD] at g <;> subst h <;> simp at g
  · rw [g]
  · rw [sOf_inj g]
theorem kyD_v {d : D} {k : Key} {v : V} (h : kyD d = some k) (r : Rp W.K H m d v) : v = kV k := by
  cases d <;> simp [kyD] at h <;> subst h <;> rw [Rp] at r <;> exact r
theorem keyK_ok {d : D} (h : keyK d = true) : ∃ k, kyD d = some k := by
  cases d <;> simp [keyK] at h <;> exact ⟨_, rfl⟩
theorem Dkt.get {k : D} {ky : Key} (hk : kyD k = some ky) : ∀ {kvs : List (D × D)} {xs : List (Key × V)}, Dkt W.K H m kvs xs →
    (∀ d, dGet kvs k = some d → ∃ v, valV xs ky = some v ∧ Rp W.K H m d v) ∧ (dGet kvs k = none → valV xs ky = none)
  | [], xs, h => by
    have h : xs = [] := h
    subst h
    exact ⟨fun d e => (by cases e), fun _ => rfl⟩
  | (k1, d1) :: r, xs, h => by
    obtain ⟨ky1, v, xs', rfl, h2, h6, h7⟩ := h
    by_cases e : k1 = k
    · subst e
      rw [hk] at h2; cases h2
      refine ⟨fun d e => ?_, fun e => ?_⟩
      · simp [dGet] at e
        subst e
        exact ⟨v, valV_pos rfl, h6⟩
      · simp [dGet] at e
    · have e' : ¬ ky1 = ky := fun z => e (kyD_inj h2 (by rw [hk, z]))
      have ih := Dkt.get hk h7
      have q1 : dGet ((k1, d1) :: r) k = dGet r k := by simp [dGet, e]
      rw [q1, valV_neg e']
      exact ih
theorem Dkt.put {k d : D} {ky : Key} {v : V} (hk : kyD k = some ky) (rd : Rp W.K H m d v) {kvs : List (D × D)} {xs : List (Key × V)} (h : Dkt W.K H m kvs xs) :
    Dkt W.K H m (dPut kvs k d) (putK xs ky v) := by
  have hm : ∀ {kvs : List (D × D)} {xs : List (Key × V)}, Dkt W.K H m kvs xs → Dkt W.K H m (kvs.map fun p => if p.1 = k then (p.1, d) else p) (xs.map fun kv => if kv.1 = ky then (kv.1, v) else kv) := by
    intro kvs
    induction kvs with
    | nil => intro xs h; have h : xs = [] := h; subst h; rfl
    | cons p r ih =>
      obtain ⟨k1, d1⟩ := p
      intro xs h
      obtain ⟨ky1, v1, xs', rfl, h2, h6, h7⟩ := h
      rw [List.map_cons, List.map_cons]
      by_cases e : k1 = k
      · subst e
        rw [hk] at h2; cases h2
        rw [if_pos rfl, if_pos rfl]
        exact ⟨ky, v, _, rfl, hk, rd, ih h7⟩
      · have e' : ¬ ky1 = ky := fun z => e (kyD_inj h2 (by rw [hk, z]))
        rw [if_neg e, if_neg e']
        exact ⟨ky1, v1, _, rfl, h2, h6, ih h7⟩
  have ha : ∀ {kvs : List (D × D)} {xs : List (Key × V)}, Dkt W.K H m kvs xs → Dkt W.K H m (kvs ++ [(k, d)]) (xs ++ [(ky, v)]) := by
    intro kvs
    induction kvs with
    | nil => intro xs h; have h : xs = [] := h; subst h; exact ⟨ky, v, [], rfl, hk, rd, rfl⟩
    | cons p r ih =>
      obtain ⟨k1, d1⟩ := p
      intro xs h
      obtain ⟨ky1, v1, xs', rfl, h2, h6, h7⟩ := h
      exact ⟨ky1, v1, _, rfl, h2, h6, ih h7⟩
  obtain ⟨g1, g2⟩ := h.get hk
  unfold dPut putK
  rw [valV_any]
  cases q : dGet kvs k with
  | some d0 =>
    obtain ⟨v0, z, _⟩ := g1 d0 q
    rw [z]
    exact hm h
  | none =>
    rw [g2 q]
    exact ha h
theorem Dkt.len : ∀ {kvs : List (D × D)} {xs : List (Key × V)}, Dkt W.K H m kvs xs → xs.length = kvs.length
  | [], xs, h => by have h : xs = [] := h; subst h; rfl
  | (k, d) :: r, xs, h => by
    obtain ⟨ky, v, xs', rfl, h2, h6, h7⟩ := h
    rw [List.length_cons, List.length_cons, Dkt.len h7]
theorem loc_at {d : Nat} {v : V} {c : Cell} (s : Sim W H m st) (r : Rp W.K H m (.loc d) v) (h : st[d]? = some c) : ∃ a, v = .ref a ∧ m[d]? = some a ∧ CellOk W H m a c := by
  obtain ⟨b, hb, ok⟩ := s.at h
  rw [Rp] at r
  obtain ⟨a, ha, rfl⟩ := r
  rw [ha] at hb; cases hb
  exact ⟨_, rfl, ha, ok⟩
theorem tup_py {n : Nat} {xs : List D} {vs : List V} {p : PyData} (s : Sim W H m st) (r : Rps W.K H m xs vs) (h : toP st n (.tup xs) = some p) : ∃ ps, p = .tuple ps ∧ DpAll W.K H vs ps := by
  have go : ∀ {f : Nat → Option PyData}, (∀ k p v, f k = some p → Rp W.K H m (.loc k) v → Dp W.K H v p) → toPW f (.tup xs) = some p → ∃ ps, p = .tuple ps ∧ DpAll W.K H vs ps := fun {f} hf h => by
    rw [toPW] at h
    split at h
    · rename_i ps q
      cases h
      exact ⟨ps, rfl, toPWs_ok hf q r⟩
    · cases h
  cases n with
  | zero => exact go (f := fun _ => none) (fun k p v z => by cases z) h
  | succ n =>
    rw [toP] at h
    refine go (fun k p v z rz => ?_) h
    refine toP_ok s (n + 1) (d := .loc k) (p := p) (v := v) ?_ rz
    rw [toP, toPW]; exact z
theorem memS_ok {d : D} {xs : List D} {v : V} {u : Addr} {vs : List V} {r neg : Bool} (s : Sim W H m st) (r1 : Rp W.K H m d v) (hq : SqL W.K H u vs ∨ SqT W.K H u vs) (rx : Rps W.K H m xs vs) (h : memS st d xs = some r) (q : Q (.bl (if neg then !r else r)) H) : rInM W.K neg v (.ref u) H Q := by
  unfold memS at h
  split at h
  · rename_i p ps e1 e2
    split at h
    · rename_i c
      cases h
      obtain ⟨ps', e, hall⟩ := tup_py s rx e2
      cases e
      refine ⟨p, ps, toP_ok s 2 e1 r1, ?_, c.1, c.2, q⟩
      rcases hq with hq | hq
      · exact .inl (.lst hq hall)
      · exact .inr (.tup hq hall)
    · cases h
  · cases h
theorem memD_ok {d e : D} {v u : V} {r neg : Bool} (s : Sim W H m st) (r1 : Rp W.K H m d v) (r2 : Rp W.K H m e u) (h : memD st d e = some r) (q : Q (.bl (if neg then !r else r)) H) : rMem W neg v u H Q := by
  unfold memD at h
  split at h
  · split at h
    · cases h
      rw [Rp] at r1 r2; subst r1 r2
      exact .inl ⟨_, _, rfl, rfl, q⟩
    · cases h
  · obtain ⟨a, vs, rfl, h1, h2⟩ := r2.tup_ref
    exact .inr (.inl (memS_ok s r1 (.inr h1) h2 h q))
  · split at h
    · rename_i hx
      obtain ⟨a, rfl, ha, vs, h1, h2⟩ := loc_at s r2 hx
      exact .inr (.inl (memS_ok s r1 (.inl (SqL.of h1)) h2 h q))
    · rename_i kvs hx
      obtain ⟨a, rfl, ha, xs, h1, h2⟩ := loc_at s r2 hx
      split at h
      · rename_i hk
        cases h
        obtain ⟨b, k, rfl, g1, g2, g3⟩ := keyT_ok hk r1
        refine .inr (.inr (.inl ⟨a, b, xs, k, rfl, rfl, h1, h2.keys, g3, g2, ?_⟩))
        obtain ⟨z1, z2⟩ := h2.get g1
        cases w : dGet kvs d with
        | some d0 =>
          obtain ⟨ka, u0, v0, z, _⟩ := z1 d0 w
          rw [w] at q; rw [z]; exact q
        | none => rw [w] at q; rw [z2 w]; exact q
      · cases h
    · rename_i kvs hx
      obtain ⟨a, rfl, ha, xs, h1, h2⟩ := loc_at s r2 hx
      split at h
      · rename_i hk
        cases h
        obtain ⟨ky, g1⟩ := keyK_ok hk
        have := kyD_v g1 r1; subst this
        refine .inr (.inr (.inr ⟨a, valV xs ky, rfl, DGet.k h1, ?_⟩))
        obtain ⟨z1, z2⟩ := h2.get g1
        cases w : dGet kvs d with
        | some d0 =>
          obtain ⟨v0, z, _⟩ := z1 d0 w
          rw [w] at q; rw [z]; exact q
        | none => rw [w] at q; rw [z2 w]; exact q
      · cases h
    · cases h
  · cases h
def rCmp (W : Wd) (o : COp) : R2 := fun x y H Q => match o with
  | .eq => rEqA W.K false x y H Q
  | .ne => rEqA W.K true x y H Q
  | .lt => ∃ i j, x = .int i ∧ y = .int j ∧ Q (.bl (decide (i < j))) H
  | .le => ∃ i j, x = .int i ∧ y = .int j ∧ Q (.bl (decide (i ≤ j))) H
  | .gt => ∃ i j, x = .int i ∧ y = .int j ∧ Q (.bl (decide (j < i))) H
  | .ge => ∃ i j, x = .int i ∧ y = .int j ∧ Q (.bl (decide (j ≤ i))) H
  | .isN => y = .non ∧ Q (.bl (decide (x = .non))) H
  | .notN => y = .non ∧ Q (.bl (!decide (x = .non))) H
  | .mem => rMem W false x y H Q
  | .nmem => rMem W true x y H Q
theorem op_rCmp {o : COp} {op : CmpOp} (h : copOk o op = true) (hP : X.prog = W.P) (hw : X.w = W.w) (hK : X.K = W.K) (hu : X.A.units + 100 < cLine) : OpR X (compareOp op) (rCmp W o) := by
  cases o <;> cases op <;> simp [copOk] at h
  · have q := op_eqA (X := X) (by omega); rw [hK] at q; exact q
  · have q := op_neA (X := X) (by omega); rw [hK] at q; exact q
  · exact op_lt
  · exact op_le
  · exact op_gt
  · exact op_ge
  · exact op_isN
  · exact op_notN
  · exact op_rMem hP hw hK hu
  · exact op_rNMem hP hw hK hu
theorem Rp.non_iff {d : D} {v : V} (r : Rp W.K H m d v) : decide (v = V.non) = decide (d = D.non) := by
  cases d <;> rw [Rp] at r
  · subst r; rfl
  · subst r; rfl
  · subst r; rfl
  · subst r; rfl
  · obtain ⟨a, vs, rfl, _⟩ := r; rfl
  · obtain ⟨a, _, rfl⟩ := r; rfl
  · obtain ⟨a, vs, rfl, _⟩ := r; rfl
theorem cmp_ok {o : COp} {d e : D} {v u : V} (s : Sim W H m st) (r1 : Rp W.K H m d v) (r2 : Rp W.K H m e u) (h : Pg W E m H (cmpD o d e st) (kD W Q)) : rCmp W o v u H Q := by
  cases o
  · exact eqD_ok (neg := false) s r1 r2 h
  · exact eqD_ok (neg := true) s r1 r2 h
  · unfold cmpD at h
    simp only at h
    split at h
    · rw [Rp] at r1 r2; subst r1 r2
      exact ⟨_, _, rfl, rfl, kD_now h s (by rw [Rp])⟩
    · exact h.elim
  · unfold cmpD at h
    simp only at h
    split at h
    · rw [Rp] at r1 r2; subst r1 r2
      exact ⟨_, _, rfl, rfl, kD_now h s (by rw [Rp])⟩
    · exact h.elim
  · unfold cmpD at h
    simp only at h
    split at h
    · rw [Rp] at r1 r2; subst r1 r2
      exact ⟨_, _, rfl, rfl, kD_now h s (by rw [Rp])⟩
    · exact h.elim
  · unfold cmpD at h
    simp only at h
    split at h
    · rw [Rp] at r1 r2; subst r1 r2
      exact ⟨_, _, rfl, rfl, kD_now h s (by rw [Rp])⟩
    · exact h.elim
  · unfold cmpD at h
    simp only at h
    split at h
    · rw [Rp] at r2; subst r2
      exact ⟨rfl, by rw [r1.non_iff]; exact kD_now h s (by rw [Rp])⟩
    · exact h.elim
  · unfold cmpD at h
    simp only at h
    split at h
    · rw [Rp] at r2; subst r2
      exact ⟨rfl, by rw [r1.non_iff]; exact kD_now h s (by rw [Rp])⟩
    · exact h.elim
  · obtain ⟨r, e, h⟩ := h.ofO
    exact memD_ok (neg := false) s r1 r2 e (kD_now h s (by rw [Rp]; rfl))
  · obtain ⟨r, e, h⟩ := h.ofO
    exact memD_ok (neg := true) s r1 r2 e (kD_now h s (by rw [Rp]; rfl))

/-! ### items, slices, fields -/
/-- what a list or a tuple holds -/
theorem seqD_ok {d : D} {v : V} {xs : List D} (s : Sim W H m st) (r : Rp W.K H m d v) (h : seqD st d = some xs) : ∃ a vs, v = .ref a ∧ (SqL W.K H a vs ∨ SqT W.K H a vs) ∧ Rps W.K H m xs vs := by
  unfold seqD at h
  split at h
  · cases h
    obtain ⟨a, vs, rfl, h1, h2⟩ := r.tup_ref
    exact ⟨a, vs, rfl, .inr h1, h2⟩
  · split at h
    · rename_i hx
      cases h
      obtain ⟨b, hb, vs, h1, h2⟩ := s.at hx
      rw [Rp] at r
      obtain ⟨a, ha, rfl⟩ := r
      rw [ha] at hb; cases hb
      exact ⟨_, vs, rfl, .inl (SqL.of h1), h2⟩
    · cases h
  · cases h
    rw [Rp] at r
    obtain ⟨a, vs, rfl, h1, h2⟩ := r
    exact ⟨a, vs, rfl, .inl h1.l, h2⟩
  · cases h
theorem lstD_ok {d : D} {v : V} {xs : List D} (s : Sim W H m st) (r : Rp W.K H m d v) (h : lstD st d = some xs) : ∃ a vs, v = .ref a ∧ SqL W.K H a vs ∧ Rps W.K H m xs vs := by
  unfold lstD at h
  split at h
  · split at h
    · rename_i hx
      cases h
      obtain ⟨b, hb, vs, h1, h2⟩ := s.at hx
      rw [Rp] at r
      obtain ⟨a, ha, rfl⟩ := r
      rw [ha] at hb; cases hb
      exact ⟨_, vs, rfl, SqL.of h1, h2⟩
    · cases h
  · cases h
    rw [Rp] at r
    obtain ⟨a, vs, rfl, h1, h2⟩ := r
    exact ⟨a, vs, rfl, h1.l, h2⟩
  · cases h
theorem atI_rel {ds : List D} {vs : List V} {i : Int} {d : D} (r : Rps W.K H m ds vs) (h : atI ds i = some d) : ∃ v, atI vs i = some v ∧ Rp W.K H m d v := by
  unfold atI at h ⊢
  rw [r.len]
  obtain ⟨j, h1, h2⟩ := Option.bind_eq_some_iff.mp h
  obtain ⟨v, h3, h4⟩ := r.get h2
  exact ⟨v, by rw [h1]; exact h3, h4⟩
theorem ixS_ok {d e : D} {v u : V} (s : Sim W H m st) (r1 : Rp W.K H m d v) (r2 : Rp W.K H m e u) (h : Pg W E m H (ixS d e st) (kD W Q)) : rIx W.K v u H Q := by
  unfold ixS at h
  split at h
  · rename_i i
    rw [Rp] at r2; subst r2
    split at h
    · rename_i x
      obtain ⟨c, h⟩ := h.ite
      obtain ⟨a, e, h⟩ := h.ofO
      rw [Rp] at r1; subst r1
      refine .inr (.inr ⟨sOf x, i, a, rfl, rfl, by rw [sOf_len]; exact lim_le c, by show atI x.toArray.toList i = _; rw [List.toList_toArray]; exact e, ?_⟩)
      exact kD_now h s (by rw [Rp]; rfl)
    · obtain ⟨xs, e, h⟩ := h.ofO
      obtain ⟨a, vs, rfl, h1, h2⟩ := seqD_ok s r1 e
      have h' : ∃ y, atI xs i = some y ∧ Pg W E m H (.ok y st) (kD W Q) := by
        cases q : atI xs i with
        | some y => rw [q] at h; exact ⟨y, rfl, h⟩
        | none => rw [q] at h; exact h.elim
      obtain ⟨y, e2, h⟩ := h'
      obtain ⟨z, e3, rz⟩ := atI_rel h2 e2
      rcases h1 with h1 | h1
      · exact .inl ⟨a, vs, i, z, rfl, rfl, h1, e3, kD_now h s rz⟩
      · exact .inr (.inl ⟨a, vs, i, z, rfl, rfl, h1, e3, kD_now h s rz⟩)
  · exact h.elim
def rDkIx : R2 := fun x y H Q => ∃ a v, x = .ref a ∧ DGet H a y (some v) ∧ Q v H
open PyProof.Rows PySem.Calls in
theorem ixTy {prog : Program} {w : World} {A : Around} {Er : Value → Shared → Prop} {s : Shared} {value slice : Expr} {v u : Value} {Qr : Value → Shared → Prop} (hT : s.TypeIs v "dict")
    (hs : subscripted slice false v u = operate [v, u] (getItem v u)) (h : wpAny (model prog w) A (getItem v u) Qr Er s) : wpAny (model prog w) A (subscriptTail value slice v u) Qr Er s := by
  unfold subscriptTail
  refine wpAny_bind ?_
  rw [getitemInPython_of_ne hT.not_modules]
  refine wpAny_bind (wpAny_specialOf hT PySem.F.slot_dict_getitem.lookup ?_)
  have fin : wpAny (model prog w) A (subscripted slice false v u) (fun r s₃ => wpAny (model prog w) A (letTemporaryGo value v r >>= fun _ => pure r) Qr Er s₃) Er s := by
    rw [hs]
    exact wpAny_operating (wpAny_mono h (fun r s₃ h₃ => wpAny_bind (wpAny_letTemporaryGo (wpAny_pure h₃))) fun _ _ x => x)
  first
    | exact wpAny_pure (wpAny_bind fin)
    | exact wpAny_bind (wpAny_pure (wpAny_bind fin))
    | exact wpAny_bind fin
open PyProof.Rows PySem.Calls in
theorem ix_nd (hu : X.A.units + 9 < cLine) : IxR X (rNdIx X.prog X.w X.K) := by
  intro value slice pins s σ H x y v u Q I rx ry h hs
  obtain ⟨a, b, xs, k, ka, w', v', rfl, rfl, e, hk, r⟩ := id h
  obtain rfl : v = Value.ref a := rx
  obtain ⟨_, _, dd⟩ := nd_at I e hk
  exact ixTy dd.typeIs hs (nd_getItem hu I (x := .ref a) (rfl : RelV (.ref a) (Value.ref a)) ry h)
open PyProof.Rows PySem.Calls in
theorem ix_dk (hu : X.A.units + 1 < cLine) : IxR X rDkIx := by
  intro value slice pins s σ H x y v u Q I rx ry h hs
  obtain ⟨a, v', rfl, g, q⟩ := h
  obtain rfl : v = Value.ref a := rx
  exact ixTy (dict_typeIs I g) hs (d_getItem hu I g ry fun w' s' I' rw' => (show EP X pins σ Q w' s' from ⟨v', H, I', rw', q⟩))
def rIxA (W : Wd) : R2 := fun x y H Q => rIx W.K x y H Q ∨ (rNdIx W.P W.w W.K x y H Q ∨ rDkIx x y H Q)
theorem ix_A (hP : X.prog = W.P) (hw : X.w = W.w) (hK : X.K = W.K) (hu : X.A.units + 100 < cLine) : IxR X (rIxA W) := by
  have q := (ix_seq (X := X)).or ((ix_nd (X := X) (by omega)).or (ix_dk (X := X) (by omega)))
  rw [hK, hP, hw] at q
  exact q
theorem ix_ok {d e : D} {v u : V} (s : Sim W H m st) (r1 : Rp W.K H m d v) (r2 : Rp W.K H m e u) (h : Pg W E m H (ixD d e st) (kD W Q)) : rIxA W v u H Q := by
  have ofO_g : ∀ {o : Option D}, Pg W E m H (ofO st o) (kD W Q) → ∃ y, o = some y ∧ Pg W E m H (.ok y st) (kD W Q) := fun {o} h => by
    cases o with
    | some y => exact ⟨y, rfl, h⟩
    | none => exact h.elim
  unfold ixD at h
  split at h
  · split at h
    · rename_i hx
      obtain ⟨hk, h⟩ := h.ite
      obtain ⟨y, ey, h⟩ := ofO_g h
      obtain ⟨a, rfl, ha, xs, h1, h2⟩ := loc_at s r1 hx
      obtain ⟨b, k, rfl, g1, g2, g3⟩ := keyT_ok hk r2
      obtain ⟨ka, u0, v0, z, z1, z2⟩ := (h2.get g1).1 y ey
      exact .inr (.inl ⟨a, b, xs, k, ka, u0, v0, rfl, rfl, h1, h2.keys, g3, g2, z, z1, kD_now h s z2⟩)
    · rename_i hx
      obtain ⟨hk, h⟩ := h.ite
      obtain ⟨y, ey, h⟩ := ofO_g h
      obtain ⟨a, rfl, ha, xs, h1, h2⟩ := loc_at s r1 hx
      obtain ⟨ky, g1⟩ := keyK_ok hk
      have := kyD_v g1 r2; subst this
      obtain ⟨v0, z, z2⟩ := (h2.get g1).1 y ey
      exact .inr (.inr ⟨a, v0, rfl, by have := DGet.k (k := ky) h1; rw [z] at this; exact this, kD_now h s z2⟩)
    · exact .inl (ixS_ok s r1 r2 h)
  · exact .inl (ixS_ok s r1 r2 h)
theorem cut_rel {ds : List D} {vs : List V} {lo hi : Option Int} (r : Rps W.K H m ds vs) : Rps W.K H m (cutD ds lo hi) (cutV vs lo hi) := by
  unfold cutD cutV
  rw [r.len]
  exact (r.drop _).take _
def rSl (K : PySem.W.Frag) : V → Option Int → Option Int → Hp → VK → Prop := fun x lo hi H Q => rSlS x lo hi H Q ∨ (rSlA K x lo hi H Q ∨ rSlL K x lo hi H Q)
theorem op_rSl (hK : X.K = W.K) : SlR X (rSl W.K) := by
  have q := (sl_str (X := X)).or ((sl_tupA (X := X)).or (sl_list (X := X)))
  rw [hK] at q
  exact q
theorem sl_ok {d : D} {v : V} {lo hi : Option Int} (s : Sim W H m st) (r1 : Rp W.K H m d v) (h : Pg W E m H (slD d lo hi st) (kD W Q)) : rSl W.K v lo hi H Q := by
  unfold slD at h
  split at h
  · rename_i x
    obtain ⟨c, h⟩ := h.ite
    rw [Rp] at r1; subst r1
    refine .inl ⟨sOf x, rfl, by rw [sOf_len]; exact lim_le c, kD_now h s ?_⟩
    rw [Rp]
    unfold cutS cutD
    rw [sOf_len]
    show V.str (Str.mk (((x.toArray.toList.drop _).take _).toArray)) = _
    rw [List.toList_toArray]
    rfl
  · rename_i xs
    obtain ⟨a, vs, rfl, h1, h2⟩ := r1.tup_ref
    refine .inr (.inl ⟨a, vs, rfl, h1, fun hw => ?_, fun _ p hp => new_tup s hp (cut_rel h2) h⟩)
    have e : cutD xs lo hi = xs := by
      unfold cutD
      rw [h2.len] at hw
      rw [hw.1, hw.2]
      simp
    rw [e] at h
    exact kD_now h s (by rw [Rp]; exact ⟨a, vs, rfl, h1, h2⟩)
  · obtain ⟨xs, e, h⟩ := h.ofO
    obtain ⟨a, vs, rfl, h1, h2⟩ := lstD_ok s r1 e
    exact .inr (.inr ⟨a, vs, rfl, h1, fun p hp => new_lst s hp (cut_rel h2) h⟩)
theorem rev_ok {d : D} {v : V} (s : Sim W H m st) (r1 : Rp W.K H m d v) (h : Pg W E m H (revD d st) (kD W Q)) : (∃ a xs, v = .ref a ∧ SqL W.K H a xs ∧ ∀ p, H p = none → Q (.ref p) (upd H p (.lst xs.reverse))) ∨
    (∃ a xs, v = .ref a ∧ SqT W.K H a xs ∧ ∀ p, H p = none → Q (.ref p) (upd H p (.tup xs.reverse))) ∨ (∃ z : Str, v = .str z ∧ z.length ≤ sizeLine ∧ Q (.str ⟨z.cps.toList.reverse.toArray⟩) H) := by
  unfold revD at h
  split at h
  · obtain ⟨a, vs, rfl, h1, h2⟩ := r1.tup_ref
    exact .inr (.inl ⟨a, vs, rfl, h1, fun p hp => new_tup s hp h2.rev h⟩)
  · obtain ⟨c, h⟩ := h.ite
    rw [Rp] at r1; subst r1
    refine .inr (.inr ⟨_, rfl, by rw [sOf_len]; exact lim_le c, kD_now h s ?_⟩)
    rw [Rp]
    show V.str (sOf _) = _
    unfold sOf
    simp
  · obtain ⟨xs, e, h⟩ := h.ofO
    obtain ⟨a, vs, rfl, h1, h2⟩ := lstD_ok s r1 e
    exact .inl ⟨a, vs, rfl, h1, fun p hp => new_lst s hp h2.rev h⟩
theorem lookupP {α : Type} (f g : Str) (y : α) (fs : List (Str × α)) : ((f, y) :: fs).lookup g = if g = f then some y else fs.lookup g := by
  by_cases h : g = f
  · subst h
    simp [List.lookup]
  · have e : (g == f) = false := by simpa using h
    rw [if_neg h]
    simp [List.lookup, e]
theorem Fsr.lookup {fs : List (Str × D)} {gs : List (Str × V)} (r : Fsr W.K H m fs gs) {f : Str} {d : D} (h : fs.lookup f = some d) : ∃ v, gs.lookup f = some v ∧ Rp W.K H m d v := by
  obtain ⟨r1, r2⟩ := r
  induction fs generalizing gs with
  | nil => cases h
  | cons p fs ih =>
    obtain ⟨g, d'⟩ := p
    cases gs with
    | nil => cases r1
    | cons q gs =>
      obtain ⟨g', v'⟩ := q
      simp only [List.map_cons, List.cons.injEq] at r1 r2
      rw [Rps] at r2
      obtain ⟨v, vs, e, h1, h2⟩ := r2
      cases e
      obtain ⟨rfl, r1⟩ := r1
      rw [lookupP] at h ⊢
      by_cases hf : f = g'
      · rw [if_pos hf] at h ⊢
        cases h
        exact ⟨v', rfl, h1⟩
      · rw [if_neg hf] at h ⊢
        exact ih h r1 h2
theorem Fsr.lookup_none {fs : List (Str × D)} {gs : List (Str × V)} (r : Fsr W.K H m fs gs) {f : Str} (h : fs.lookup f = none) : gs.lookup f = none := by
  have r1 := r.1
  clear r
  induction fs generalizing gs with
  | nil =>
    cases gs with
    | nil => rfl
    | cons q gs => cases r1
  | cons p fs ih =>
    obtain ⟨g, d'⟩ := p
    cases gs with
    | nil => cases r1
    | cons q gs =>
      obtain ⟨g', v'⟩ := q
      simp only [List.map_cons, List.cons.injEq] at r1
      obtain ⟨rfl, r1⟩ := r1
      rw [lookupP] at h ⊢
      by_cases hf : f = g'
      · rw [if_pos hf] at h; cases h
      · rw [if_neg hf] at h ⊢
        exact ih h r1
theorem Fsr.put {fs : List (Str × D)} {gs : List (Str × V)} {f : Str} {d : D} {v : V} (r : Fsr W.K H m fs gs) (h : Rp W.K H m d v) : Fsr W.K H m (putF' f d fs) (putF f v gs) := by
  obtain ⟨r1, r2⟩ := r
  induction fs generalizing gs with
  | nil =>
    cases gs with
    | nil => exact ⟨rfl, Rps.one h⟩
    | cons q gs => cases r1
  | cons p fs ih =>
    obtain ⟨g, d'⟩ := p
    cases gs with
    | nil => cases r1
    | cons q gs =>
      obtain ⟨g', v'⟩ := q
      simp only [List.map_cons, List.cons.injEq] at r1 r2
      rw [Rps] at r2
      obtain ⟨w, vs, e, h1, h2⟩ := r2
      cases e
      obtain ⟨rfl, r1⟩ := r1
      unfold putF' putF
      by_cases hf : g' = f
      · rw [if_pos hf, if_pos hf]
        refine ⟨by simp [r1], ?_⟩
        simp only [List.map_cons]; rw [Rps]
        exact ⟨v, _, rfl, h, h2⟩
      · rw [if_neg hf, if_neg hf]
        obtain ⟨i1, i2⟩ := ih r1 h2
        refine ⟨by simp [i1], ?_⟩
        simp only [List.map_cons]; rw [Rps]
        exact ⟨v', _, rfl, h1, i2⟩

/-! ### isinstance, built-in functions, methods -/
theorem sqT_tyx {a : Addr} {vs : List V} (h : SqT W.K H a vs) : TyX W.K H (.ref a) (.type "tuple") := by
  rcases h with (h | ⟨o, h⟩) | ⟨o, its, n, h, c, _⟩
  · exact .base (.tup h)
  · exact .fTuple h
  · exact .kTuple h c
def tyName : Option Kd → String
  | none => "NoneType"
  | some k => kdName k
theorem kind_ok {d : D} {v : V} {t : Option Kd} (s : Sim W H m st) (r : Rp W.K H m d v) (h : kindD st d = some t) : TyX W.K H v (.type (tyName t)) := by
  cases d <;> unfold kindD at h
  · rw [Rp] at r; cases h; subst r; exact .base .non
  · rw [Rp] at r; cases h; subst r; exact .base (.bl _)
  · rw [Rp] at r; cases h; subst r; exact .base (.int _)
  · rw [Rp] at r; cases h; subst r; exact .base (.str _)
  · cases h
    obtain ⟨a, vs, rfl, h1, h2⟩ := r.tup_ref
    exact sqT_tyx h1
  · simp only at h
    split at h
    · rename_i hx
      cases h
      obtain ⟨b, hb, vs, h1, h2⟩ := s.at hx
      rw [Rp] at r
      obtain ⟨a, ha, rfl⟩ := r
      rw [ha] at hb; cases hb
      exact .base (.lst h1)
    · cases h
  · cases h
theorem kit_kd (t : Option Kd) (k : Kd) : PySem.W.kitOne W.K (.type (tyName t)) (.type (kdName k)) = some (decide (t = some k ∨ (t = some .bool ∧ k = .int))) := by
  cases t with
  | none => cases k <;> rfl
  | some t => cases t <;> cases k <;> rfl
theorem isi_ok {d : D} {v : V} {k : Kd} (s : Sim W H m st) (r1 : Rp W.K H m d v) (h : Pg W E m H (isiD d k st) (kD W Q)) : rIsi W.K [v, .ty (kdName k)] H Q := by
  obtain ⟨t, e, h⟩ := h.ofO
  exact ⟨v, _, _, _, _, rfl, .ty _, kind_ok s r1 e, kit_kd t k, kD_now h s (by rw [Rp])⟩

theorem ints_rel : ∀ {xs : List D} {ns : List Int} {vs : List V}, intsD xs = some ns → Rps W.K H m xs vs → vs = ns.map V.int
  | [], ns, vs, e, r => by rw [intsD] at e; rw [Rps] at r; cases e; subst r; rfl
  | .int i :: xs, ns, vs, e, r => by
    rw [intsD] at e
    rw [Rps] at r
    obtain ⟨v, vs', rfl, h1, h2⟩ := r
    rw [Rp] at h1
    split at e
    · rename_i l q
      cases e
      rw [ints_rel q h2, h1]; rfl
    · cases e
  | .non :: xs, ns, vs, e, r => by simp [intsD] at e
  | .bl _ :: xs, ns, vs, e, r => by simp [intsD] at e
  | .str _ :: xs, ns, vs, e, r => by simp [intsD] at e
  | .tup _ :: xs, ns, vs, e, r => by simp [intsD] at e
  | .loc _ :: xs, ns, vs, e, r => by simp [intsD] at e
  | .fl _ :: xs, ns, vs, e, r => by simp [intsD] at e
theorem strs_rel : ∀ {xs : List D} {ns : List Tx} {vs : List V}, strsD xs = some ns → Rps W.K H m xs vs → vs = (ns.map sOf).map V.str
  | [], ns, vs, e, r => by rw [strsD] at e; rw [Rps] at r; cases e; subst r; rfl
  | .str i :: xs, ns, vs, e, r => by
    rw [strsD] at e
    rw [Rps] at r
    obtain ⟨v, vs', rfl, h1, h2⟩ := r
    rw [Rp] at h1
    split at e
    · rename_i l q
      cases e
      rw [strs_rel q h2, h1]; rfl
    · cases e
  | .non :: xs, ns, vs, e, r => by simp [strsD] at e
  | .bl _ :: xs, ns, vs, e, r => by simp [strsD] at e
  | .int _ :: xs, ns, vs, e, r => by simp [strsD] at e
  | .tup _ :: xs, ns, vs, e, r => by simp [strsD] at e
  | .loc _ :: xs, ns, vs, e, r => by simp [strsD] at e
  | .fl _ :: xs, ns, vs, e, r => by simp [strsD] at e
end
end Z
namespace Z
open PySem L2
section
variable {W : Wd} {E : XK} {X : Cx} {m : List Addr} {H : Hp} {st : Sto} {Q : VK}
theorem digit_ok {x : Tx} {i : Int} (h : digitT x = some i) : PySem.intText? (sOf x) = some i ∧ x.length ≤ 640 := by
  unfold digitT at h
  split at h
  · rename_i c
    split at h
    · rename_i hc
      cases h
      have hc' : c = 48 ∨ c = 49 ∨ c = 50 ∨ c = 51 ∨ c = 52 ∨ c = 53 ∨ c = 54 ∨ c = 55 ∨ c = 56 ∨ c = 57 := by omega
      refine ⟨?_, by simp⟩
      rcases hc' with rfl | rfl | rfl | rfl | rfl | rfl | rfl | rfl | rfl | rfl <;> decide +kernel
    · cases h
  · cases h
def rLstS : List V → Hp → VK → Prop := fun xs H Q => ∃ x : Str, xs = [.str x] ∧ x.cps.size ≤ sizeLine ∧ ∀ l, H l = none → Q (.ref l) (upd H l (.lst (x.cps.toList.map fun c => V.str ⟨#[c]⟩)))
theorem call_listS (hc : X.calm = true) : CallR X (.type "list") rLstS := by
  intro pins s σ H xs us Q I r h
  obtain ⟨x, rfl, hl, q⟩ := h
  obtain ⟨u, rfl, rx⟩ := vals1 r
  obtain ⟨t, rfl⟩ := rx
  refine call_list_str (I.ok.hd hc) x t (fun h' tk acc c' kp e hi => ⟨.ref s.heap.objs.size, _, I.laid kp (Nat.le_refl _) (show ObjOk X.prog X.w _ h' _ (.lst (x.cps.toList.map fun c => V.str ⟨#[c]⟩)) from ⟨?_, acc.toList, c', ?_, by rw [Array.toArray_toList]; exact e⟩), rfl, q _ (I.hok.fresh (Nat.le_refl _))⟩) hl
  · rw [List.length_map, Array.length_toList]; exact hl
  · have hs := hi.1
    refine vals_of_at (by rw [List.length_map, Array.length_toList, Array.length_toList]; exact hs.symm) fun j y u hy hu => ?_
    obtain ⟨c, t', hc', rfl⟩ := hi.2 j u (by rw [← hu, Array.getElem?_toList])
    rw [List.getElem?_map, Array.getElem?_toList, hc'] at hy
    cases hy
    exact ⟨t', rfl⟩
def rBi (W : Wd) (b : Bi) : List V → Hp → VK → Prop := fun xs H Q => match b with
  | .len => (∃ p ys, xs = [.ref p] ∧ (SqL W.K H p ys ∨ SqT W.K H p ys) ∧ Q (.int ys.length) H) ∨ (∃ z, xs = [.str z] ∧ z.length ≤ sizeLine ∧ Q (.int z.length) H)
  | .int => ((∃ i, xs = [.int i] ∧ Q (.int i) H) ∨ ∃ k, xs = [.bl k] ∧ Q (.int (if k then 1 else 0)) H) ∨ (∃ a n, xs = [.str a] ∧ PySem.intText? a = some n ∧ a.length ≤ 640 ∧ Q (.int n) H)
  | .list => (∃ p ys, xs = [.ref p] ∧ (SqL W.K H p ys ∨ SqT W.K H p ys) ∧ ∀ l, H l = none → Q (.ref l) (upd H l (.lst ys))) ∨ rLstS xs H Q
  | .tuple => ∃ p ys, xs = [.ref p] ∧ ((SqL W.K H p ys ∧ ∀ l, H l = none → Q (.ref l) (upd H l (.tup ys))) ∨ (SqT W.K H p ys ∧ Q (.ref p) H))
  | .str => (∃ i, xs = [.int i] ∧ i.natAbs.log2 < 1920 ∧ Q (.str (toString i)) H) ∨ ∃ a, xs = [.str a] ∧ Q (.str a) H
  | .sum => rSum W.K xs H Q
def biVal : Bi → Value
  | .len => .builtin "len" | .int => .type "int" | .list => .type "list" | .tuple => .type "tuple" | .str => .type "str" | .sum => .builtin "sum"
theorem call_rBi (b : Bi) (hK : X.K = W.K) (hc : X.calm = true) : CallR X (biVal b) (rBi W b) := by
  cases b
  · have q := (call_len_seq (X := X)).or (call_len_str (X := X)); rw [hK] at q; exact q
  · exact (call_int1 (X := X)).or (call_int_str (X := X))
  · have q := (call_list_of (X := X)).or (call_listS hc); rw [hK] at q; exact q
  · have q := call_tuple_of (X := X); rw [hK] at q; exact q
  · exact (call_str_int (X := X)).or SkE.call_str_str
  · have q := cr_sum hc; rw [hK] at q; exact q
theorem signs_rel {K : PySem.W.Frag} {H : Hp} {m : List Addr} : ∀ x : Tx, Rps K H m (x.map fun c => D.str [c]) (x.map fun c => V.str ⟨#[c]⟩)
  | [] => by rw [List.map_nil, List.map_nil, Rps]
  | z :: x => by rw [List.map_cons, List.map_cons, Rps]; exact ⟨_, _, rfl, by rw [Rp]; rfl, signs_rel x⟩
theorem digit_str {i : Int} (h0 : 0 ≤ i) (h1 : i < 10) : (toString i : Str) = sOf [48 + i.toNat] := by
  have : i = 0 ∨ i = 1 ∨ i = 2 ∨ i = 3 ∨ i = 4 ∨ i = 5 ∨ i = 6 ∨ i = 7 ∨ i = 8 ∨ i = 9 := by omega
  rcases this with rfl | rfl | rfl | rfl | rfl | rfl | rfl | rfl | rfl | rfl <;> decide +kernel
theorem bi_ok {b : Bi} {d : D} {v : V} (s : Sim W H m st) (r1 : Rp W.K H m d v) (h : Pg W E m H (biD b d st) (kD W Q)) : rBi W b [v] H Q := by
  cases b <;> unfold biD at h <;> simp only at h
  · split at h
    · obtain ⟨c, h⟩ := h.ite
      rw [Rp] at r1; subst r1
      exact .inr ⟨_, rfl, by rw [sOf_len]; exact lim_le c, by rw [sOf_len]; exact kD_now h s (by rw [Rp])⟩
    · obtain ⟨xs, e, h⟩ := h.ofO
      obtain ⟨a, vs, rfl, h1, h2⟩ := seqD_ok s r1 e
      exact .inl ⟨a, vs, rfl, h1, by rw [h2.len]; exact kD_now h s (by rw [Rp])⟩
  · split at h
    · rw [Rp] at r1; subst r1
      exact .inl (.inl ⟨_, rfl, kD_now h s (by rw [Rp])⟩)
    · rw [Rp] at r1; subst r1
      exact .inl (.inr ⟨_, rfl, kD_now h s (by rw [Rp])⟩)
    · obtain ⟨i, e, h⟩ := h.ofO
      rw [Rp] at r1; subst r1
      obtain ⟨e1, e2⟩ := digit_ok e
      exact .inr ⟨_, _, rfl, e1, by rw [sOf_len]; exact e2, kD_now h s (by rw [Rp])⟩
    · exact h.elim
  · split at h
    · rename_i x
      obtain ⟨c, h⟩ := h.ite
      rw [Rp] at r1; subst r1
      refine .inr ⟨sOf x, rfl, by show x.toArray.size ≤ _; rw [List.size_toArray]; exact lim_le c, fun l hl => new_lst s hl ?_ h⟩
      show Rps W.K H m _ ((x.toArray.toList).map fun c => V.str ⟨#[c]⟩)
      rw [List.toList_toArray]
      exact signs_rel x
    · obtain ⟨xs, e, h⟩ := h.ofO
      obtain ⟨a, vs, rfl, h1, h2⟩ := seqD_ok s r1 e
      exact .inl ⟨a, vs, rfl, h1, fun l hl => new_lst s hl h2 h⟩
  · obtain ⟨xs, e, h⟩ := h.ofO
    obtain ⟨a, vs, rfl, h1, h2⟩ := seqD_ok s r1 e
    refine ⟨a, vs, rfl, ?_⟩
    rcases h1 with h1 | h1
    · exact .inl ⟨h1, fun l hl => new_tup s hl h2 h⟩
    · exact .inr ⟨h1, kD_now h s (by rw [Rp]; exact ⟨a, vs, rfl, h1, h2⟩)⟩
  · split at h
    · rename_i i
      obtain ⟨c, h⟩ := h.ite
      rw [Rp] at r1; subst r1
      refine .inl ⟨_, rfl, ?_, by rw [digit_str c.1 c.2]; exact kD_now h s (by rw [Rp])⟩
      have : i = 0 ∨ i = 1 ∨ i = 2 ∨ i = 3 ∨ i = 4 ∨ i = 5 ∨ i = 6 ∨ i = 7 ∨ i = 8 ∨ i = 9 := by omega
      rcases this with rfl | rfl | rfl | rfl | rfl | rfl | rfl | rfl | rfl | rfl <;> decide
    · rw [Rp] at r1; subst r1
      exact .inr ⟨_, rfl, kD_now h s (by rw [Rp])⟩
    · exact h.elim
  · obtain ⟨xs, e, h⟩ := h.ofO
    obtain ⟨a, vs, rfl, h1, h2⟩ := lstD_ok s r1 e
    obtain ⟨ns, e2, h⟩ := h.ofO
    have := ints_rel e2 h2
    subst this
    exact ⟨a, ns, rfl, h1, kD_now h s (by rw [Rp])⟩

/-! ### methods -/
theorem join_ok (sep : Tx) (ys : List Tx) : Txt.join (sOf sep) (ys.map sOf) = sOf (joinT sep ys) := by

  rw [TL.join_eq]
  induction ys with
  | nil => rfl
  | cons x r ih =>
    cases r with
    | nil => rfl
    | cons z r =>
      show sOf x ++ sOf sep ++ Str.join (sOf sep) ((z :: r).map sOf) = sOf (x ++ sep ++ joinT sep (z :: r))
      rw [ih, sOf_app, sOf_app]
theorem strs_rps {K : PySem.W.Frag} {H : Hp} {m : List Addr} : ∀ xs : List Tx, Rps K H m (xs.map D.str) ((xs.map sOf).map V.str)
  | [] => by rw [List.map_nil, List.map_nil, List.map_nil, Rps]
  | z :: x => by rw [List.map_cons, List.map_cons, List.map_cons, Rps]; exact ⟨_, _, rfl, by rw [Rp], strs_rps x⟩
def meTy : Me → String
  | .join => "str"
  | .split => "str"
  | _ => "list"
def rMe0 (W : Wd) (me : Me) : V → List V → Hp → VK → Prop := fun x xs H Q => match me with
  | .pop => rPop x xs H Q
  | .clear => rClear x xs H Q
  | _ => False
def rMe1 (W : Wd) (me : Me) : V → List V → Hp → VK → Prop := fun x xs H Q => match me with
  | .append => rAppend x xs H Q
  | .extend => rExtend x xs H Q ∨ rExtendT W.K x xs H Q
  | .pop => rPopAt x xs H Q
  | .index => rIndexD W.K x xs H Q
  | .join => ∃ a p, ∃ ys : List Str, x = .str a ∧ xs = [.ref p] ∧ (SqL W.K H p (ys.map V.str) ∨ SqT W.K H p (ys.map V.str)) ∧ (ys.map (·.length)).sum + ys.length * a.length ≤ 16777216 ∧ Q (.str (Txt.join a ys)) H
  | .split => ∃ a b : Str, x = .str a ∧ xs = [.str b] ∧ (b.length == 0) = false ∧ a.length + 2 ≤ sizeLine ∧ rNewStrs (Txt.split a b) H Q
  | _ => False
def meId : Me → String
  | .append => "list.append" | .pop => "list.pop" | .extend => "list.extend" | .join => "str.join" | .clear => "list.clear" | .index => "list.index" | .split => "str.split"
theorem recv_ok {me : Me} {d : D} {v : V} (s : Sim W H m st) (r : Rp W.K H m d v) (h : recvOk me st d = true) : tyV W.K (meTy me) v H := by
  have lst : kindD st d = some (some .lst) → tyV W.K "list" v H := fun h => by
    cases d <;> unfold kindD at h <;> simp at h
    split at h
    · rename_i hx
      obtain ⟨b, hb, vs, h1, h2⟩ := s.at hx
      rw [Rp] at r
      obtain ⟨a, ha, rfl⟩ := r
      rw [ha] at hb; cases hb
      exact .inl ⟨rfl, vs, SqL.of h1⟩
    · cases h
  cases me <;> simp only [recvOk, decide_eq_true_eq] at h
  · exact lst h
  · exact lst h
  · exact lst h
  · split at h
    · rw [Rp] at r; subst r; rfl
    · cases h
  · exact lst h
  · exact lst h
  · split at h
    · rw [Rp] at r; subst r; rfl
    · cases h
theorem me0_mt (me : Me) (h : me = .pop ∨ me = .clear) : MtM X (meId me) (rMe0 W me) := by
  rcases h with rfl | rfl
  · exact mt_pop
  · exact mt_clear
theorem list_at {n : Nat} {xs : List D} {v : V} (s : Sim W H m st) (r : Rp W.K H m (.loc n) v) (h : st[n]? = some (.lst xs)) : ∃ a vs, v = .ref a ∧ m[n]? = some a ∧ H a = some (.lst vs) ∧ Rps W.K H m xs vs := by
  obtain ⟨b, hb, vs, h1, h2⟩ := s.at h
  rw [Rp] at r
  obtain ⟨a, ha, rfl⟩ := r
  rw [ha] at hb; cases hb
  exact ⟨_, vs, rfl, ha, h1, h2⟩
/-- a list's change -/
theorem chg_lst {n : Nat} {a : Addr} {xs : List D} {vs : List V} {d : D} {v : V} (s : Sim W H m st) (ha : m[n]? = some a) (r : Rps W.K H m xs vs) (rv : Rp W.K H m d v) (h : Pg W E m H (.ok d (st.set n (.lst xs))) (kD W Q)) : Q v (upd H a (.lst vs)) := by
  have e0 : Ext m m H (upd H a (.lst vs)) := ⟨⟨[], by simp⟩, fun b u h _ nn => ⟨by
    rw [upd_ne fun z => nn (by rw [z]; exact List.mem_of_getElem? ha)]; exact h, nn⟩⟩
  obtain ⟨s', e⟩ := s.write ha (o := .lst vs) (c := .lst xs) ⟨vs, upd_same, r.up s e0⟩
  exact h.go e s' _ (rv.up s e)
theorem me0_ok {me : Me} {d : D} {v : V} (s : Sim W H m st) (r1 : Rp W.K H m d v) (h : Pg W E m H (me0D me d st) (kD W Q)) : rMe0 W me v [] H Q := by
  unfold me0D at h
  split at h
  · split at h
    · rename_i hx
      obtain ⟨a, vs, rfl, ha, h1, h2⟩ := list_at s r1 hx
      split at h
      · rename_i xs x hl
        rw [List.getLast?_eq_getElem?] at hl
        obtain ⟨y, hy, ry⟩ := h2.get hl
        exact ⟨a, vs, y, rfl, rfl, h1, by rw [h2.len]; exact hy, chg_lst s ha h2.dropLast ry h⟩
      · exact h.elim
    · exact h.elim
  · split at h
    · rename_i hx
      obtain ⟨a, vs, rfl, ha, h1, h2⟩ := list_at s r1 hx
      exact ⟨a, vs, rfl, rfl, h1, chg_lst s ha (by rw [Rps]) (by rw [Rp]) h⟩
    · exact h.elim
  · exact h.elim
theorem me1_mt (me : Me) (hK : X.K = W.K) (hu : X.A.units + 100 < cLine) (h : me ≠ .clear) : MtM X (meId me) (rMe1 W me) := by
  cases me
  · exact mt_append
  · exact mt_popAt
  · have q1 := mt_extend (X := X)
    have q2 := mt_extendT (X := X)
    rw [hK] at q2
    intro pins s σ H x xs v us Q I rx rv h
    rcases h with h | h
    · exact q1 pins s σ H x xs v us Q I rx rv h
    · exact q2 pins s σ H x xs v us Q I rx rv h
  · have q := mt_join (X := X); rw [hK] at q; exact q
  · exact absurd rfl h
  · have q := (mt_indexD (X := X) (by omega)); rw [hK] at q; exact q
  · exact fun pins s σ H x xs v us Q I rx rs h => mt_split (X := X) pins s σ H x xs v us Q I rx rs h
theorem me1_ok {me : Me} {d e : D} {v u : V} (s : Sim W H m st) (r1 : Rp W.K H m d v) (r2 : Rp W.K H m e u) (h : Pg W E m H (me1D me d e st) (kD W Q)) : rMe1 W me v [u] H Q := by
  unfold me1D at h
  split at h
  · split at h
    · rename_i hx
      obtain ⟨c, h⟩ := h.ite
      obtain ⟨a, vs, rfl, ha, h1, h2⟩ := list_at s r1 hx
      exact ⟨a, vs, u, rfl, rfl, h1, by rw [h2.len]; exact lim_lt c, chg_lst s ha (h2.append (.one r2)) (by rw [Rp]) h⟩
    · exact h.elim
  · split at h
    · rename_i hx
      rw [Rp] at r2; subst r2
      split at h
      · rename_i k hk
        split at h
        · rename_i x hxk
          obtain ⟨c, h⟩ := h.ite
          obtain ⟨a, vs, rfl, ha, h1, h2⟩ := list_at s r1 hx
          obtain ⟨y, hy, ry⟩ := h2.get hxk
          obtain ⟨k1, k2, k3, k4⟩ := ixN_seq hk
          have c' : (_ : List D).length ≤ 100000 := c
          exact ⟨a, vs, _, k, y, rfl, rfl, h1, by omega, by omega, by rw [h2.len]; exact k1, hy, chg_lst s ha (h2.erase k) ry h⟩
        · exact h.elim
      · exact h.elim
    · exact h.elim
  · split at h
    · split at h
      · rename_i hx hy
        obtain ⟨c, h⟩ := h.ite
        obtain ⟨a, vs, rfl, ha, h1, h2⟩ := list_at s r1 hx
        obtain ⟨b, us, rfl, hb, g1, g2⟩ := list_at s r2 hy
        exact .inl ⟨a, b, vs, us, rfl, rfl, h1, g1, by rw [h2.len, g2.len]; exact lim_le c, chg_lst s ha (h2.append g2) (by rw [Rp]) h⟩
      · exact h.elim
    · split at h
      · rename_i hx
        obtain ⟨c, h⟩ := h.ite
        obtain ⟨a, vs, rfl, ha, h1, h2⟩ := list_at s r1 hx
        obtain ⟨b, us, rfl, g1, g2⟩ := r2.tup_ref
        exact .inr ⟨a, b, vs, us, rfl, rfl, h1, g1, by rw [h2.len, g2.len]; exact lim_le c, chg_lst s ha (h2.append g2) (by rw [Rp]) h⟩
      · exact h.elim
    · exact h.elim
  · split at h
    · rename_i xs p hx ep
      split at h
      · rename_i ps eps
        obtain ⟨c, h⟩ := h.ite
        split at h
        · rename_i j hj
          obtain ⟨a, vs, rfl, ha, h1, h2⟩ := list_at s r1 hx
          obtain ⟨ps', ee, hall⟩ := tup_py s h2 eps
          cases ee
          obtain ⟨k1, k2, k3⟩ := List.findIdx?_eq_some_iff_getElem.mp hj
          refine ⟨a, u, p, ps, j, ps[j], rfl, rfl, .lst (SqL.of h1) hall, toP_ok s 2 ep r2, c.2, c.1, List.getElem?_eq_getElem k1, k2, fun mm z' hm hz => ?_, kD_now h s (by rw [Rp])⟩
          obtain ⟨hl, rfl⟩ := List.getElem?_eq_some_iff.mp hz
          simpa using k3 mm hm
        · exact h.elim
      · exact h.elim
    · exact h.elim
  · obtain ⟨xs, e1, h⟩ := h.ofO
    obtain ⟨ys, e2, h⟩ := h.ofO
    obtain ⟨c, h⟩ := h.ite
    rw [Rp] at r1; subst r1
    obtain ⟨a, vs, rfl, h1, h2⟩ := seqD_ok s r2 e1
    have := strs_rel e2 h2
    subst this
    refine ⟨_, a, ys.map sOf, rfl, rfl, h1, ?_, ?_⟩
    · have z : (List.map (fun x => x.length) (List.map sOf ys)) = ys.map List.length := by
        rw [List.map_map]; exact List.map_congr_left fun x _ => sOf_len x
      rw [z, sOf_len, List.length_map]
      exact Nat.le_trans c (by decide)
    · rw [join_ok]; exact kD_now h s (by rw [Rp])
  · split at h
    · rename_i x _ c
      obtain ⟨cc, h⟩ := h.ite
      rw [Rp] at r1 r2; subst r1 r2
      refine ⟨_, _, rfl, rfl, rfl, by rw [sOf_len]; exact Nat.le_trans cc.2 (by decide), fun p hp => ?_⟩
      have e : Txt.split (sOf x) (sOf [c]) = (splitT c x).map sOf := SX.split_S (a := x) (b := [c]) (by simp) (by simp [cc.1])
      rw [e]
      exact new_lst s hp (strs_rps _) h
    · exact h.elim
  · exact h.elim
end
end Z
namespace Z
open PySem L2
/-! ### the text's forms -/
section
variable {e o : Expr} {es : List Expr} {env : PySem.Env} {pos apos : Pos} {nm : Str}
theorem star_cons (h : isStar e = false) : starEach (e :: es) env = (false, eval e env) :: starEach es env := by
  cases e <;> first | rfl | cases h
def noStars : List Expr → Bool
  | [] => true
  | e :: es => !isStar e && noStars es
theorem star_plain : ∀ {es : List Expr}, noStars es = true → (backTo pos (starEach es env)).any (·.1) = false
  | [], _ => rfl
  | e :: es, h => by
    rw [noStars, Bool.and_eq_true] at h
    have h1 : isStar e = false := by simpa using h.1
    rw [star_cons h1]
    show (false || (backTo pos (starEach es env)).any (·.1)) = false
    rw [star_plain h.2]; rfl
theorem star_few : ∀ {es : List Expr}, noStars es = true → (backTo pos (starEach es env)).all (fun x => !x.1) = true
  | [], _ => rfl
  | e :: es, h => by
    rw [noStars, Bool.and_eq_true] at h
    have h1 : isStar e = false := by simpa using h.1
    rw [star_cons h1]
    show (true && (backTo pos (starEach es env)).all (fun x => !x.1)) = true
    rw [star_few h.2]; rfl
theorem base_of (h : baseOk o = true) : attributeBase o nm env (eval o env) = eval o env := by
  cases o with
  | Call f as ks p =>
    cases as with
    | nil => cases h
    | cons a as => cases f <;> rfl
  | _ => rfl
theorem plainIx_of (h : isSlice e = false) : PlainIx e := fun o i => by
  cases e <;> first | rfl | cases h
theorem foldSet_of (h : isSetD e = false) : ∀ x, foldedSetIterable e env x = pure x := fun x => by
  cases e <;> first | rfl | cases h
def fewForm (n : Nat) (es : List Expr) (env : PySem.Env) (pos : Pos) : Prop := ((backTo pos (starEach es env)).all (fun x => !x.1) && (backToKw pos (keywordEach [] env)).all (fun x => x.1.isSome)
      && decide (es.length + ([] : List Keyword).length + (if ([] : List Keyword).isEmpty then 0 else 1) < 30)) = true
theorem few_of (h : noStars es = true) (hn : es.length < 20) : fewForm 0 es env pos := by
  unfold fewForm
  rw [star_few h]
  show (true && true && decide (es.length + 0 + 0 < 30)) = true
  rw [decide_eq_true (by omega : es.length + 0 + 0 < 30)]; rfl
theorem meth_form (hb : baseOk o = true) (hl : (apos.endLine == pos.line) = true) (hs : noStars es = true) (hn : es.length < 20) :
    eval (.Call (.Attribute o nm apos) es [] pos) env = (do
      let ov ← eval o env
      standAt apos.atName
      let (f, first) ← holding [ov] (getMethod ov nm (do return (← importBound o env).getD true))
      callWith pos f first (backTo pos (starEach es env)) (backToKw pos (keywordEach [] env))) := by
  have h1 : methodCallForm (es.length + ([] : List Keyword).length) (backTo pos (starEach es env)) (backToKw pos (keywordEach [] env)) = true := few_of hs hn
  have e1 : eval (.Call (.Attribute o nm apos) es [] pos) env = (do
    let ov ← attributeBase o nm env (eval o env)
    standAt apos.atName
    methodCall o nm apos pos env ov (es.length + ([] : List Keyword).length) (backTo pos (starEach es env)) (backToKw pos (keywordEach [] env))) := by rfl
  rw [e1, base_of hb]
  unfold methodCall methodCallPos
  rw [h1, hl]
  rfl
def plainT : Expr → Bool
  | .UnaryOp .Not _ _ => false | .BoolOp .. => false | .IfExp .. => false | .Compare .. => false
  | _ => true
theorem isTrue_of (h : plainT e = true) : ∀ whole, isTrue e env whole = (do let v ← whole; standAt e.pos; holding [v] (truthy v)) := by
  intro whole
  cases e with
  | UnaryOp op x p => cases op <;> first | rfl | cases h
  | BoolOp => cases h
  | IfExp => cases h
  | Compare => cases h
  | _ => rfl
end

/-! ### where one stands -/
structure XOk (W : Wd) (cc : CC) (Ns : List Str) (scp : Scope) (k : Nat) (E : XK) (X : Cx) : Prop where
  prog : X.prog = W.P
  w : X.w = W.w
  K : X.K = W.K
  mg : X.mg = W.mg
  base : X.base = W.base
  N : X.N = Ns
  nd : Ns.Nodup
  sc : X.env.scope = scp
  calm : X.calm = true
  room : Room (2 * k + 2) X.A
  pass : Passes (L2.CX X.prog X.w) X E
  lm : ∀ c q, cc.lam = some (c, q) → Room (2 * k + 4) X.A ∧ X.env.code = .ref c ∧ X.env.qual = q ∧ ∃ P, LamX.TabB X.base X.mg c P ∧ (P, q ++ "<lambda>") ∈ W.T ∧ ∀ p ∈ W.T, p.1 = P → p.2 = q ++ "<lambda>"
/-- a function keeps what its evaluation says -/
def spE (W : Wd) (C : Fn) (i : Nat) : Sp := fun vs H Q E => ∃ m st ds, Sim W H m st ∧ Rps W.K H m ds vs ∧ vs.length = (W.ps i).length ∧ Pg W E m H (C i ds st) (kD W Q)
/-- an exception of the work, told -/
def EchZ (W : Wd) (Q : VK) : XK := fun cls dx H' => ∃ (c : Nat) (w : Tx) (fo : Option Str) (v : V), cls = .ref (W.ca c) ∧ W.pr.tw c = some (w, fo) ∧ (fo = none → dx = none ∧ v = .int 0) ∧ (∀ f, fo = some f → ∃ a, dx = some a ∧ H' a = some (.xd [(f, v)])) ∧
  ∀ H'' p, (∀ b o, H' b = some o → H'' b = some o) → H'' p = none → Q (.ref p) (upd H'' p (.tup [.str (sOf w), v]))
def TTz (W : Wd) : (XK → Hp → VK → Prop) → Hp → VK → Prop := fun tl H Q => tl (EchZ W Q) H Q
/-- the def that tells of a work -/
structure ToldOk (W : Wd) (x : Str) : Prop where
  ex : ∃ (g : Addr) (pg : Arguments) (bg : List Stmt) (sg : Scope) (dV kV doc pm cdv ct oc : Value) (an od : Option Addr) (osl : Array (Option Value)) (Ng : List Str) (b : Str), W.mg x = some (.ref g) ∧ PySem.W.keepIn W.K (.ref g) = true ∧
    W.K.lookup g = some ⟨oc, od, .func (PySem.W.fnOf x x pg bg sg dV kV doc pm an cdv ct), osl⟩ ∧ PySem.W.codeIn W.K cdv x = true ∧ Binds W.K (PySem.W.fnOf x x pg bg sg dV kV doc pm an cdv ct) [b] [] ∧ FnScope Ng [b] sg ∧ Ng[0]? = some b ∧ Vis sg b ∧
    (b == ("__debug__" : Str)) = false ∧ (b == ("__classdict__" : Str)) = false ∧
    ∀ (X : Cx) (q : Str), X.prog = W.P → X.w = W.w → X.K = W.K → X.mg = W.mg → X.base = W.base → Room 2 X.A → LamX.GivesTo X Ng x sg g cdv bg b q (TTz W)
/-- an own exception class without own __init__ -/
structure Exo0 (K : PySem.W.Frag) (C : Addr) : Prop where
  ex : PySem.W.excIn K C [.type "ValueError", .type "Exception", .type "BaseException", .type "object"] "ValueError.__new__" = true
  kp : PySem.W.keepIn K (.ref C) = true
  sb : PySem.W.subIn K (.ref C) (.type "BaseException") = some true
  ty : PySem.W.typeIn K (.ref C) = some (.type "type")
/-- what an own __init__ does: Base.__init__(self, ..); self.f = v -/
def spI (C : Addr) (f : Str) : Sp := fun vs H Q _ => ∃ (a : Addr) (v : V), vs = [.ref a, v] ∧ H a = some (exo a C none) ∧ ∀ dx, H dx = none → dx ≠ a → Q .non (upd (upd H dx (exd dx [(f, v)])) a (exo a C (some dx)))
/-- .. with one, which keeps its one argument as f -/
structure Exo1 (W : Wd) (C : Addr) (f : Str) : Prop where
  oc : OexC W.K C
  ex : ∃ (fI : Addr) (fd : FuncData) (ps : List Str), PySem.W.findIn W.K (.ref C) "__init__" = some (some (.ref fI)) ∧ PySem.W.typeIn W.K (.ref fI) = some (.type "function") ∧ Binds W.K fd ps [] ∧ FnOk W.P W.w W.K W.mg W.base (L2.CX W.P W.w) 1 fI fd ps (spI C f)
/-- what the program's top has left -/
structure WOk (W : Wd) (cc : CC) : Prop where
  fn : ∀ x i, cc.fns.lookup x = some i → W.mg x = some (.ref (W.fa i)) ∧ PySem.W.keepIn W.K (.ref (W.fa i)) = true ∧ ∃ fi, W.pr.fns[i]? = some fi
  bi : ∀ (i : Nat) (fi : FnIR), W.pr.fns[i]? = some fi → Binds W.K (W.fd i) (W.ps i) [] ∧ (W.ps i).length = fi.np
  gl : ∀ x d, cc.gls.lookup x = some d → ∃ u v, W.mg x = some u ∧ RelV v u ∧ ∀ H m, Rp W.K H m d v
  bl : ∀ x, x ∈ cc.bls → W.mg x = none
  cl : ∀ x c, cc.cls.lookup x = some c → W.mg x = some (.ref (W.ca c)) ∧ c < W.ncl ∧ ∃ f, W.pr.ini c = some f
  cls : ∀ c, c < W.ncl → Cls W.K (W.ca c)
  nf : ∀ c f, c < W.ncl → f ∈ cc.flds → NoAttr W.K (W.ca c) f
  mkk : ∀ c f, W.pr.ini c = some f → Mk W.K (W.ca c) (W.fa f) ∧ ∃ fi, W.pr.fns[f]? = some fi
  mt : ∀ x mi c f, cc.mns.lookup x = some mi → c < W.ncl → W.pr.meth c mi = some f → Meth W.K (W.ca c) x (W.fa f) ∧ ∃ fi, W.pr.fns[f]? = some fi
  td : ∀ x, cc.tdef = some x → ToldOk W x
  x0 : ∀ x c, cc.ex0.lookup x = some c → W.mg x = some (.ref (W.ca c)) ∧ Exo0 W.K (W.ca c)
  x1 : ∀ x c f, cc.ex1.lookup x = some (c, f) → W.mg x = some (.ref (W.ca c)) ∧ Exo1 W (W.ca c) f
/-- the functions keep their promises at a level -/
def Lv (W : Wd) (k : Nat) : Prop := ∀ (i : Nat) (fi : FnIR), W.pr.fns[i]? = some fi → FnOk W.P W.w W.K W.mg W.base (L2.CX W.P W.w) (2 * k + 1) (W.fa i) (W.fd i) (W.ps i) (spE W (W.pr.call W.F k) i)
theorem step_np {W : Wd} {E : XK} {m : List Addr} {H : Hp} {pr : Prog} {F : Nat} {C : Cl} {i : Nat} {ds : List D} {st : Sto} {fi : FnIR} {k : D → List Addr → Sto → Hp → Prop} (h : Pg W E m H (pr.step F C i ds st) k) (hi : pr.fns[i]? = some fi) : ds.length = fi.np := by
  unfold Prog.step at h
  rw [hi] at h
  exact h.ite.1
theorem call_step (pr : Prog) (F : Nat) {j k i : Nat} {fi : FnIR} (hi : pr.fns[i]? = some fi) (h : (fi.lm = false ∧ j = k + 1) ∨ (fi.lm = true ∧ j = k + 2)) : pr.call F j i = pr.step F (pr.cl F k) i := by
  have hl : pr.lam i = fi.lm := by unfold Prog.lam; rw [hi]
  rcases h with ⟨h1, rfl⟩ | ⟨h1, rfl⟩
  · cases k with
    | zero => simp only [Prog.call]; rw [if_neg (by rw [hl, h1]; decide)]; rfl
    | succ k => simp only [Prog.call]; rw [if_neg (by rw [hl, h1]; decide)]; rfl
  · simp only [Prog.call]; rw [if_pos (by rw [hl, h1])]; rfl
theorem call_low (pr : Prog) (F : Nat) {j i : Nat} {fi : FnIR} (hi : pr.fns[i]? = some fi) (h : j = 0 ∨ (fi.lm = true ∧ j = 1)) (ds : List D) (st : Sto) : pr.call F j i ds st = .stuck := by
  have hl : pr.lam i = fi.lm := by unfold Prog.lam; rw [hi]
  rcases h with rfl | ⟨h1, rfl⟩
  · rfl
  · simp only [Prog.call]; rw [if_pos (by rw [hl, h1])]
theorem call_np {W : Wd} {E : XK} {m : List Addr} {H : Hp} {pr : Prog} {F k i : Nat} {ds : List D} {st : Sto} {fi : FnIR} {q : D → List Addr → Sto → Hp → Prop} (h : Pg W E m H (pr.call F k i ds st) q) (hi : pr.fns[i]? = some fi) : ds.length = fi.np := by
  have low : ∀ {j : Nat}, pr.call F j i ds st = .stuck → Pg W E m H (pr.call F j i ds st) q → ds.length = fi.np := fun e h => by rw [e] at h; exact h.elim
  cases hl : fi.lm with
  | false =>
    cases k with
    | zero => exact low (call_low pr F hi (.inl rfl) ds st) h
    | succ k => rw [call_step pr F hi (.inl ⟨hl, rfl⟩)] at h; exact step_np h hi
  | true =>
    match k, h with
    | 0, h => exact low (call_low pr F hi (.inl rfl) ds st) h
    | 1, h => exact low (call_low pr F hi (.inr ⟨hl, rfl⟩) ds st) h
    | k + 2, h => rw [call_step pr F hi (.inr ⟨hl, rfl⟩)] at h; exact step_np h hi

section
variable {W : Wd} {cc : CC} {Ns : List Str} {scp : Scope} {k : Nat} {E : XK} {X : Cx} {C : Cl}
/-- the functions called -/
def Wd.cl (W : Wd) (k : Nat) : Cl := W.pr.cl W.F k
theorem vis_of {x : Str} (h : visB scp x = true) (hs : X.env.scope = scp) : Vis X.env.scope x := by
  unfold visB at h
  rw [hs]
  split at h
  · exact .inl (by assumption)
  · exact .inr (.inl (by assumption))
  · exact .inr (.inr (by assumption))
  · cases h
theorem gl_of {x : Str} (h : glB scp x = true) (hs : X.env.scope = scp) : Gl X x ∧ (x == ("__debug__" : Str)) = false := by
  unfold glB at h
  rw [Bool.and_eq_true, decide_eq_true_eq, decide_eq_true_eq] at h
  refine ⟨?_, h.2⟩
  show X.env.scope.names.lookup x = _
  rw [hs]; exact h.1
theorem tE_var {i : Nat} {σ : L2.St} {H : Hp} {Q : VK} (h : tE W E (ev C (.var i)) σ H Q) : tVar i σ H Q := by
  obtain ⟨m, ρ, st, s, r, p⟩ := h
  rw [ev] at p
  split at p
  · rename_i d hd
    obtain ⟨v, h1, h2⟩ := r.2 i d hd
    exact ⟨v, h1, kD_now p s h2⟩
  · exact p.elim
theorem tE_cst {d : D} {v : V} {σ : L2.St} {H : Hp} {Q : VK} (h : tE W E (fun _ st => .ok d st) σ H Q) (r : ∀ m, Rp W.K H m d v) : Q v H := by
  obtain ⟨m, ρ, st, s, _, p⟩ := h
  exact kD_now p s (r m)
/-- a bool, by what gives it -/
theorem tE_bl {f : Env → Sto → R D} {σ : L2.St} {H : Hp} {Q : Bool → Hp → Prop} (h : tT W E (fun ρ st => (f ρ st).bind fun x st => bOf st x) σ H Q) : tE W E f σ H fun v H' => ∃ b, v = .bl b ∧ Q b H' := by
  obtain ⟨m, ρ, st, s, r, p⟩ := h
  refine ⟨m, ρ, st, s, r, p.bind.imp fun d m1 st1 H1 e1 s1 p1 v rv => ?_⟩
  cases d with
  | bl b => rw [Rp] at rv; subst rv; exact ⟨b, rfl, p1.now s1⟩
  | _ => exact p1.elim
/-- a truth value read from a test -/
theorem Pg.bOf {β : Type} {m : List Addr} {H : Hp} {d : D} {st : Sto} {f : Bool → Sto → R β} {k : β → List Addr → Sto → Hp → Prop} (h : Pg W E m H ((bOf st d).bind f) k) : ∃ b, d = .bl b ∧ Pg W E m H (f b st) k := by
  cases d with
  | bl b => exact ⟨b, rfl, h⟩
  | _ => exact h.elim

/-! ### boolean connectives -/
theorem and_T {a b : IE} {σ : L2.St} {H : Hp} {Q : Bool → Hp → Prop} (h : tT W E (evT C (.and a b)) σ H Q) : tAnd (tT W E (evT C a)) (tT W E (evT C b)) σ H Q := by
  obtain ⟨m, ρ, st, s, r, p⟩ := h
  have p : Pg W E m H (((ev C a ρ st).bind fun x st => (bOf st x).bind fun k st => if k = true then (ev C b ρ st).bind fun y st => (bOf st y).bind fun j st => .ok (.bl j) st else .ok (.bl false) st).bind fun x st => bOf st x) (kB Q) := by
    unfold evT at p; rw [ev] at p; exact p
  refine ⟨m, ρ, st, s, r, ?_⟩
  unfold evT
  cases h1 : ev C a ρ st with
  | ok x st1 =>
    rw [h1] at p
    cases x with
    | bl k =>
      intro H1 m1 e1 s1
      cases k with
      | true =>
        refine iteT ⟨m1, ρ, st1, s1, r.up s e1, ?_⟩
        have p1 := Pg.up e1 p
        change Pg W E m1 H1 (((ev C b ρ st1).bind fun y st => (bOf st y).bind fun j st => .ok (.bl j) st).bind fun x st => bOf st x) (kB Q) at p1
        show Pg W E m1 H1 ((ev C b ρ st1).bind fun x st => bOf st x) (kB Q)
        cases h2 : ev C b ρ st1 with
        | ok y st2 =>
          rw [h2] at p1
          cases y with
          | bl j => exact p1
          | _ => exact p1.elim
        | exc x st2 => rw [h2] at p1; exact p1
        | stuck => rw [h2] at p1; exact p1
      | false => exact iteF (p H1 m1 e1 s1)
    | _ => exact p.elim
  | exc x st1 => rw [h1] at p; exact p
  | stuck => rw [h1] at p; exact p
theorem or_T {a b : IE} {σ : L2.St} {H : Hp} {Q : Bool → Hp → Prop} (h : tT W E (evT C (.or a b)) σ H Q) : tOr (tT W E (evT C a)) (tT W E (evT C b)) σ H Q := by
  obtain ⟨m, ρ, st, s, r, p⟩ := h
  have p : Pg W E m H (((ev C a ρ st).bind fun x st => (bOf st x).bind fun k st => if k = true then .ok (.bl true) st else (ev C b ρ st).bind fun y st => (bOf st y).bind fun j st => .ok (.bl j) st).bind fun x st => bOf st x) (kB Q) := by
    unfold evT at p; rw [ev] at p; exact p
  refine ⟨m, ρ, st, s, r, ?_⟩
  unfold evT
  cases h1 : ev C a ρ st with
  | ok x st1 =>
    rw [h1] at p
    cases x with
    | bl k =>
      intro H1 m1 e1 s1
      cases k with
      | false =>
        refine iteF ⟨m1, ρ, st1, s1, r.up s e1, ?_⟩
        have p1 := Pg.up e1 p
        change Pg W E m1 H1 (((ev C b ρ st1).bind fun y st => (bOf st y).bind fun j st => .ok (.bl j) st).bind fun x st => bOf st x) (kB Q) at p1
        show Pg W E m1 H1 ((ev C b ρ st1).bind fun x st => bOf st x) (kB Q)
        cases h2 : ev C b ρ st1 with
        | ok y st2 =>
          rw [h2] at p1
          cases y with
          | bl j => exact p1
          | _ => exact p1.elim
        | exc x st2 => rw [h2] at p1; exact p1
        | stuck => rw [h2] at p1; exact p1
      | true => exact iteT (p H1 m1 e1 s1)
    | _ => exact p.elim
  | exc x st1 => rw [h1] at p; exact p
  | stuck => rw [h1] at p; exact p
theorem not_T {a : IE} {σ : L2.St} {H : Hp} {Q : Bool → Hp → Prop} (h : tT W E (evT C (.not a)) σ H Q) : tNot (tT W E (evT C a)) σ H Q := by
  obtain ⟨m, ρ, st, s, r, p⟩ := h
  have p : Pg W E m H (((ev C a ρ st).bind fun x st => (bOf st x).bind fun k st => .ok (.bl (!k)) st).bind fun x st => bOf st x) (kB Q) := by
    unfold evT at p; rw [ev] at p; exact p
  refine ⟨m, ρ, st, s, r, ?_⟩
  unfold evT
  cases h1 : ev C a ρ st with
  | ok x st1 =>
    rw [h1] at p
    cases x with
    | bl k => exact p
    | _ => exact p.elim
  | exc x st1 => rw [h1] at p; exact p
  | stuck => rw [h1] at p; exact p
/-- as values -/
theorem and_V {a b : IE} {σ : L2.St} {H : Hp} {Q : VK} (h : tE W E (ev C (.and a b)) σ H Q) : tAndV (tE W E (ev C a)) (tE W E (ev C b)) σ H Q := by
  obtain ⟨m, ρ, st, s, r, p⟩ := h
  rw [ev] at p
  refine ⟨m, ρ, st, s, r, p.bind.imp fun d m1 st1 H1 e1 s1 p1 v rv => ?_⟩
  obtain ⟨c, rfl, q1⟩ := p1.bOf
  rw [Rp] at rv; subst rv
  refine ⟨c, rfl, ?_⟩
  cases c with
  | true =>
    refine iteT ⟨m1, ρ, st1, s1, r.up s e1, ?_⟩
    rw [if_pos rfl] at q1
    refine q1.bind.imp fun d m2 st2 H2 e2 s2 p2 v rv => ?_
    obtain ⟨j, rfl, q2⟩ := p2.bOf
    exact kD_now q2 s2 rv
  | false =>
    rw [if_neg Bool.false_ne_true] at q1
    exact iteF (kD_now q1 s1 (by rw [Rp]))
theorem or_V {a b : IE} {σ : L2.St} {H : Hp} {Q : VK} (h : tE W E (ev C (.or a b)) σ H Q) : tOrV (tE W E (ev C a)) (tE W E (ev C b)) σ H Q := by
  obtain ⟨m, ρ, st, s, r, p⟩ := h
  rw [ev] at p
  refine ⟨m, ρ, st, s, r, p.bind.imp fun d m1 st1 H1 e1 s1 p1 v rv => ?_⟩
  obtain ⟨c, rfl, q1⟩ := p1.bOf
  rw [Rp] at rv; subst rv
  refine ⟨c, rfl, ?_⟩
  cases c with
  | false =>
    refine iteF ⟨m1, ρ, st1, s1, r.up s e1, ?_⟩
    rw [if_neg Bool.false_ne_true] at q1
    refine q1.bind.imp fun d m2 st2 H2 e2 s2 p2 v rv => ?_
    obtain ⟨j, rfl, q2⟩ := p2.bOf
    exact kD_now q2 s2 rv
  | true =>
    rw [if_pos rfl] at q1
    exact iteT (kD_now q1 s1 (by rw [Rp]))
theorem not_V {a : IE} {σ : L2.St} {H : Hp} {Q : VK} (h : tE W E (ev C (.not a)) σ H Q) : tNotV (tE W E (ev C a)) σ H Q := by
  obtain ⟨m, ρ, st, s, r, p⟩ := h
  rw [ev] at p
  refine ⟨m, ρ, st, s, r, p.bind.imp fun d m1 st1 H1 e1 s1 p1 v rv => ?_⟩
  obtain ⟨c, rfl, q1⟩ := p1.bOf
  rw [Rp] at rv; subst rv
  exact ⟨c, rfl, kD_now q1 s1 (by rw [Rp])⟩
theorem ite_V {c a b : IE} {σ : L2.St} {H : Hp} {Q : VK} (h : tE W E (ev C (.ite c a b)) σ H Q) : tIf (tT W E (evT C c)) (tE W E (ev C a)) (tE W E (ev C b)) σ H Q := by
  obtain ⟨m, ρ, st, s, r, p⟩ := h
  have p : Pg W E m H ((evT C c ρ st).bind fun k st => if k = true then ev C a ρ st else ev C b ρ st) (kD W Q) := by
    rw [ev] at p
    unfold evT
    cases h1 : ev C c ρ st with
    | ok x st1 => rw [h1] at p; exact p
    | exc x st1 => rw [h1] at p; exact p
    | stuck => rw [h1] at p; exact p
  refine ⟨m, ρ, st, s, r, p.bind.imp fun k m1 st1 H1 e1 s1 p1 => ?_⟩
  cases k with
  | true => exact iteT ⟨m1, ρ, st1, s1, r.up s e1, p1⟩
  | false => exact iteF ⟨m1, ρ, st1, s1, r.up s e1, p1⟩
theorem ite_T {c a b : IE} {σ : L2.St} {H : Hp} {Q : Bool → Hp → Prop} (h : tT W E (evT C (.ite c a b)) σ H Q) : tT W E (evT C c) σ H fun k H1 => if k = true then tT W E (evT C a) σ H1 Q else tT W E (evT C b) σ H1 Q := by
  obtain ⟨m, ρ, st, s, r, p⟩ := h
  have p : Pg W E m H ((evT C c ρ st).bind fun k st => if k = true then evT C a ρ st else evT C b ρ st) (kB Q) := by
    unfold evT at p ⊢
    rw [ev] at p
    cases h1 : ev C c ρ st with
    | ok x st1 =>
      rw [h1] at p
      cases x with
      | bl k => cases k <;> exact p
      | _ => exact p.elim
    | exc x st1 => rw [h1] at p; exact p
    | stuck => rw [h1] at p; exact p
  refine ⟨m, ρ, st, s, r, p.bind.imp fun k m1 st1 H1 e1 s1 p1 => ?_⟩
  cases k with
  | true => exact iteT ⟨m1, ρ, st1, s1, r.up s e1, p1⟩
  | false => exact iteF ⟨m1, ρ, st1, s1, r.up s e1, p1⟩
end
end Z
namespace Z
open PySem L2
section
variable {W : Wd} {cc : CC} {Ns : List Str} {scp : Scope} {k : Nat} {E : XK} {X : Cx} {C : Cl}
/-! ### argument lists, calls -/
theorem evs_cons {e : IE} {r : IEs} {σ : L2.St} {H : Hp} {Q : List V → Hp → Prop} (h : tA W E (evs C (.cons e r)) σ H Q) : tCons (tE W E (ev C e)) (tA W E (evs C r)) σ H Q := by
  obtain ⟨m, ρ, st, s, rr, p⟩ := h
  rw [evs] at p
  refine ⟨m, ρ, st, s, rr, p.bind.imp fun d m1 st1 H1 e1 s1 p1 v rv => ?_⟩
  refine ⟨m1, ρ, st1, s1, rr.up s e1, p1.bind.imp fun ds m2 st2 H2 e2 s2 p2 vs rvs => ?_⟩
  exact p2.now s2 _ (by rw [Rps]; exact ⟨v, vs, rfl, rv.up s1 e2, rvs⟩)
theorem evs_nil {σ : L2.St} {H : Hp} {Q : List V → Hp → Prop} (h : tA W E (evs C .nil) σ H Q) : tNil σ H Q := by
  obtain ⟨m, ρ, st, s, rr, p⟩ := h
  rw [evs] at p
  exact p.now s [] (by rw [Rps])
/-- behind the arguments -/
theorem tA_then {es : IEs} {h : List D → Sto → R D} {σ : L2.St} {H : Hp} {Q : VK} {q : List V → Hp → Prop} (w : tE W E (fun ρ st => (evs C es ρ st).bind h) σ H Q)
    (qq : ∀ m st H ds vs, Sim W H m st → Rps W.K H m ds vs → Pg W E m H (h ds st) (kD W Q) → q vs H) : tA W E (evs C es) σ H q := by
  obtain ⟨m, ρ, st, s, rr, p⟩ := w
  exact ⟨m, ρ, st, s, rr, p.bind.imp fun ds m1 st1 H1 e1 s1 p1 vs rvs => qq m1 st1 H1 ds vs s1 rvs p1⟩
theorem PA.of_nil {es : List Expr} (h : es = []) : PA X es (tA W E (evs C .nil)) := by
  subst h
  exact PA.weak pa_nil fun _ _ _ w => evs_nil w
theorem FnOk.at (hX : XOk W cc Ns scp k E X) {f : Addr} {fd : FuncData} {ps : List Str} {sp : Sp} {j : Nat} (F : FnOk W.P W.w W.K W.mg W.base (L2.CX W.P W.w) j f fd ps sp) : FnOk X.prog X.w X.K X.mg X.base (L2.CX X.prog X.w) j f fd ps sp := by
  rw [hX.prog, hX.w, hX.K, hX.mg, hX.base]; exact F
theorem tup_E {es : IEs} {σ : L2.St} {H : Hp} {Q : VK} (h : tE W E (ev C (.tup es)) σ H Q) : tTup (tA W E (evs C es)) σ H Q := by
  have h' : tE W E (fun ρ st => (evs C es ρ st).bind fun ds st => if ds.length ≤ LIM then .ok (.tup ds) st else .stuck) σ H Q := by
    obtain ⟨m, ρ, st, s, rr, p⟩ := h; rw [ev] at p; exact ⟨m, ρ, st, s, rr, p⟩
  refine tA_then h' fun m st H ds vs s r p => ?_
  obtain ⟨c, p⟩ := p.ite
  exact ⟨by rw [r.len]; exact lim_le c, fun a ha => new_tup s ha r p⟩
theorem lst_E {es : IEs} {σ : L2.St} {H : Hp} {Q : VK} (h : tE W E (ev C (.lst es)) σ H Q) : tLst (tA W E (evs C es)) σ H Q := by
  have h' : tE W E (fun ρ st => (evs C es ρ st).bind fun ds st => if ds.length ≤ LIM then .ok (.loc st.length) (st ++ [.lst ds]) else .stuck) σ H Q := by
    obtain ⟨m, ρ, st, s, rr, p⟩ := h; rw [ev] at p; exact ⟨m, ρ, st, s, rr, p⟩
  refine tA_then h' fun m st H ds vs s r p => ?_
  obtain ⟨c, p⟩ := p.ite
  exact ⟨by rw [r.len]; exact lim_le c, fun a ha => new_lst s ha r p⟩
theorem call_E (hW : WOk W cc) {f : Nat} {fi : FnIR} (hf : W.pr.fns[f]? = some fi) {es : IEs} {σ : L2.St} {H : Hp} {Q : VK} (h : tE W E (ev (W.cl k) (.call f es)) σ H Q) :
    tCall (spE W (W.pr.call W.F k) f) [] E (tA W E (evs (W.cl k) es)) σ H Q := by
  have h' : tE W E (fun ρ st => (evs (W.cl k) es ρ st).bind fun ds st => (W.cl k).call f ds st) σ H Q := by
    obtain ⟨m, ρ, st, s, rr, p⟩ := h; rw [ev] at p; exact ⟨m, ρ, st, s, rr, p⟩
  refine tA_then h' fun m st H ds vs s r p => ?_
  rw [List.append_nil]
  exact ⟨m, st, ds, s, r, by rw [r.len, (hW.bi f fi hf).2]; exact call_np p hf, p⟩
theorem pe_callE (hX : XOk W cc Ns scp k E X) (hW : WOk W cc) (L : Lv W k) {x : Str} {f : Nat} {es : IEs} {xs : List Expr} {p pos : Pos}
    (hf : cc.fns.lookup x = some f) (hg : glB scp x = true) (hn : noStars xs = true) (ha : PA X xs (tA W E (evs (W.cl k) es))) (hnil : xs = [] → es = .nil) : PE X (.Call (.Name x p) xs [] pos) (tE W E (ev (W.cl k) (.call f es))) := by
  obtain ⟨h1, h2, fi, h3⟩ := hW.fn x f hf
  obtain ⟨g1, g2⟩ := gl_of hg hX.sc
  have b := (hW.bi f fi h3).1
  have F := FnOk.at hX ((L f fi h3).mono (Nat.le_succ _))
  cases xs with
  | nil =>
    cases hnil rfl
    refine PE.weak (pe_call0 F hX.room g1 (by rw [hX.mg]; exact h1) (by rw [hX.K]; exact h2) (by rw [hX.K]; exact b) .nil hX.pass g2) fun σ H Q w => ?_
    have q := call_E hW h3 w
    exact evs_nil (C := W.cl k) (W := W) (E := E) q
  | cons e xs =>
    rw [noStars, Bool.and_eq_true] at hn
    exact PE.weak (pe_call F hX.room g1 (by rw [hX.mg]; exact h1) (by rw [hX.K]; exact h2) (by rw [hX.K]; exact b) .nil hX.pass ha g2 (star_cons (by simpa using hn.1)) (star_plain hn.2)) fun σ H Q w => call_E hW h3 w
/-- a new instance -/
theorem mk_E (hW : WOk W cc) {c f : Nat} {fi : FnIR} (hc : c < W.ncl) (hf : W.pr.ini c = some f) (hfi : W.pr.fns[f]? = some fi) {es : IEs} {σ : L2.St} {H : Hp} {Q : VK} (h : tE W E (ev (W.cl k) (.mk c es)) σ H Q) :
    tMake (W.ca c) (spE W (W.pr.call W.F k) f) [] E (tA W E (evs (W.cl k) es)) σ H Q := by
  have h' : tE W E (fun ρ st => (evs (W.cl k) es ρ st).bind fun ds st => ((W.cl k).call f (.loc st.length :: ds) (st ++ [.ins c []])).bind fun r st' => if r = .non then .ok (.loc st.length) st' else .stuck) σ H Q := by
    obtain ⟨m, ρ, st, s, rr, p⟩ := h
    rw [ev] at p
    have e : (W.cl k).ini c = some f := hf
    rw [e] at p
    exact ⟨m, ρ, st, s, rr, p⟩
  refine tA_then h' fun m st H ds vs s r p x dx hx hdx ne => ?_
  rw [List.append_nil]
  obtain ⟨s1, e1⟩ := s.laid hdx (.own x)
  have hx' : upd H dx (.own x) x = none := by rw [upd_ne (Ne.symm ne)]; exact hx
  obtain ⟨s2, e2⟩ := s1.push hx' (c := .ins c []) (o := .ins (W.ca c) dx []) ⟨dx, [], hc, upd_same, rfl, by simp [Rps]⟩
  have e := e1.trans e2
  have loc0 : (m ++ [x])[st.length]? = some x := by rw [List.getElem?_append_right (by rw [s.len]; exact Nat.le_refl _), s.len]; simp
  have rl : Rp W.K (upd (upd H dx (.own x)) x (.ins (W.ca c) dx [])) (m ++ [x]) (.loc st.length) (.ref x) := by rw [Rp]; exact ⟨x, loc0, rfl⟩
  have p1 := (Pg.up e p).bind
  refine ⟨m ++ [x], _, .loc st.length :: ds, s2, by rw [Rps]; exact ⟨_, _, rfl, rl, r.up s e⟩, ?_, p1.imp fun d m3 st3 H3 e3 s3 p3 v rv => ?_⟩
  · have := call_np p1 hfi
    rw [(hW.bi f fi hfi).2, ← this, List.length_cons, List.length_cons, r.len]
  · obtain ⟨c, p3⟩ := p3.ite
    subst c
    rw [Rp] at rv; subst rv
    exact ⟨rfl, kD_now p3 s3 (rl.up s2 e3)⟩
theorem pe_mkE (hX : XOk W cc Ns scp k E X) (hW : WOk W cc) (L : Lv W k) {x : Str} {c : Nat} {es : IEs} {xs : List Expr} {p pos : Pos}
    (hf : cc.cls.lookup x = some c) (hg : glB scp x = true) (hn : noStars xs = true) (ha : PA X xs (tA W E (evs (W.cl k) es))) (hnil : xs = [] → es = .nil) : PE X (.Call (.Name x p) xs [] pos) (tE W E (ev (W.cl k) (.mk c es))) := by
  obtain ⟨h1, hc, f, h2⟩ := hW.cl x c hf
  obtain ⟨M, fi, h3⟩ := hW.mkk c f h2
  obtain ⟨g1, g2⟩ := gl_of hg hX.sc
  have b := (hW.bi f fi h3).1
  have F := FnOk.at hX (L f fi h3)
  have hr : Room (2 * k + 2) X.A := hX.room
  have M' : Mk X.K (W.ca c) (W.fa f) := by rw [hX.K]; exact M
  cases xs with
  | nil =>
      cases hnil rfl
      refine PE.weak (pe_make0 M' F hr g1 (by rw [hX.mg]; exact h1) (by rw [hX.K]; exact b) .nil hX.pass g2) fun σ H Q w => ?_
      have q := mk_E hW hc h2 h3 w
      exact evs_nil (C := W.cl k) (W := W) (E := E) q
  | cons e xs =>
      rw [noStars, Bool.and_eq_true] at hn
      exact PE.weak (pe_make M' F hr g1 (by rw [hX.mg]; exact h1) (by rw [hX.K]; exact b) .nil hX.pass ha g2 (star_cons (by simpa using hn.1)) (star_plain hn.2)) fun σ H Q w => mk_E hW hc h2 h3 w
end
end Z
namespace Z
open PySem L2
section
variable {W : Wd} {cc : CC} {Ns : List Str} {scp : Scope} {k : Nat} {E : XK} {X : Cx}
/-! ### own methods -/
/-- o.m(..) by the instance's class -/
def tMethD (X : Cx) (k : Nat) (m : Str) (E : XK) (ta : TE) (t : TA) : TE := fun σ H Q => ta σ H fun x H1 => ∃ a C dx fs f fd ps sp, x = .ref a ∧ H1 a = some (.ins C dx fs) ∧ Cls X.K C ∧ Meth X.K C m f ∧
  FnOk X.prog X.w X.K X.mg X.base (L2.CX X.prog X.w) k f fd ps sp ∧ Binds X.K fd ps [] ∧ fs.lookup m = none ∧ t σ H1 fun vs H2 => sp (x :: vs) H2 Q E
theorem pe_methD {j : Nat} {m : Str} {o : Expr} {es : List Expr} {ta : TE} {t : TA} {apos pos : Pos} {pl : Sem Bool} (he : PE X o ta) (hr : Room j X.A) (hx : Passes (L2.CX X.prog X.w) X E) (ha : PA X es t) (hnil : es = [] → ∀ σ H Q, t σ H Q → Q [] H) (hs : noStars es = true)
    (ht : eval (.Call (.Attribute o m apos) es [] pos) X.env = (do
      let ov ← eval o X.env
      standAt apos.atName
      let (f, first) ← holding [ov] (getMethod ov m pl)
      callWith pos f first (backTo pos (starEach es X.env)) (backToKw pos (keywordEach [] X.env)))) :
    PE X (.Call (.Attribute o m apos) es [] pos) (tMethD X j m E ta t) := by
  refine ⟨fun pins s σ H Q I h => ?_⟩
  refine PySem.W.methodCall_KW (pl := pl) (thn (he.run pins s σ H _ I h) fun u s1 ⟨x, H1, I1, rx, a, C, dx, fs, f, fd, ps, sp, ex, ea, c, hm, F, b, l, q⟩ => ?_) ht
  subst ex
  obtain rfl : u = Value.ref a := rx
  refine getmeth_ok I1 ea c hm l ?_
  cases es with
  | nil =>
    refine PySem.W.callWith_K0 (first := [.ref a]) I1.kIn hm.kp ?_
    exact run_fn (us := [.ref a]) (vs := [.ref a]) (ds := []) (dvs := []) F hr b .nil hx I1 (.cons rfl .nil) (hnil rfl σ H1 _ q)
  | cons e es =>
    rw [noStars, Bool.and_eq_true] at hs
    refine PySem.W.callWith_K (first := [.ref a]) (h₀ := X.base) I.ok.mod.kin hm.kp (thn (ha.run pos pins s1 σ H1 _ I1 q) fun us s2 ⟨vs, H2, I2, r, q2⟩ => ⟨I2.kIn, ?_⟩) (star_cons (by simpa using hs.1)) (star_plain hs.2)
    exact run_fn (us := .ref a :: us) (vs := .ref a :: vs) (ds := []) (dvs := []) F hr b .nil hx I2 (.cons rfl r) (by rw [List.append_nil]; exact q2)
theorem om_E (hX : XOk W cc Ns scp k E X) (hW : WOk W cc) (L : Lv W k) {x : Str} {mi : Nat} {a : IE} {es : IEs} (hm : cc.mns.lookup x = some mi) {σ : L2.St} {H : Hp} {Q : VK} (h : tE W E (ev (W.cl k) (.om x mi a es)) σ H Q) :
    tMethD X (2 * k + 2) x E (tE W E (ev (W.cl k) a)) (tA W E (evs (W.cl k) es)) σ H Q := by
  obtain ⟨m, ρ, st, s, r, p⟩ := h
  rw [ev] at p
  refine ⟨m, ρ, st, s, r, p.bind.imp fun d m1 st1 H1 e1 s1 p1 v rv => ?_⟩
  cases d with
  | loc n =>
    simp only at p1
    split at p1
    · rename_i c fs hc
      split at p1
      · rename_i f hf hno
        obtain ⟨ad, had, dx, gs, hcl, h1, h2⟩ := s1.at hc
        have rv' := rv
        rw [Rp] at rv'
        obtain ⟨a', ha', rfl⟩ := rv'
        rw [had] at ha'; cases ha'
        obtain ⟨M, fi, hfi⟩ := hW.mt x mi c f hm hcl hf
        have F := FnOk.at hX ((L f fi hfi).mono (Nat.le_succ _))
        refine ⟨ad, W.ca c, dx, gs, W.fa f, W.fd f, W.ps f, _, rfl, h1, by rw [hX.K]; exact hW.cls c hcl, by rw [hX.K]; exact M, F, by rw [hX.K]; exact (hW.bi f fi hfi).1, h2.lookup_none hno, ?_⟩
        refine ⟨m1, ρ, st1, s1, r.up s e1, p1.bind.imp fun ds m2 st2 H2 e2 s2 p2 vs rvs => ?_⟩
        refine ⟨m2, st2, .loc n :: ds, s2, by rw [Rps]; exact ⟨_, _, rfl, rv.up s1 e2, rvs⟩, ?_, p2⟩
        have := call_np p2 hfi
        rw [(hW.bi f fi hfi).2, ← this, List.length_cons, List.length_cons, rvs.len]
      · exact p1.elim
    · exact p1.elim
  | _ => exact p1.elim
theorem pe_omE (hX : XOk W cc Ns scp k E X) (hW : WOk W cc) (L : Lv W k) {x : Str} {mi : Nat} {a : IE} {es : IEs} {o : Expr} {xs : List Expr} {apos pos : Pos} (hm : cc.mns.lookup x = some mi) (hb : baseOk o = true) (hl : (apos.endLine == pos.line) = true) (hn : xs.length < 20)
    (he : PE X o (tE W E (ev (W.cl k) a))) (hs : noStars xs = true) (ha : PA X xs (tA W E (evs (W.cl k) es))) (hnil : xs = [] → es = .nil) : PE X (.Call (.Attribute o x apos) xs [] pos) (tE W E (ev (W.cl k) (.om x mi a es))) := by
  refine PE.weak (pe_methD he hX.room hX.pass ha (fun e σ H Q w => ?_) hs (meth_form hb hl hs hn)) fun σ H Q w => om_E hX hW L hm w
  cases hnil e
  exact evs_nil w

/-! ### one operand, two operands -/
theorem fld_E (hW : WOk W cc) {a : IE} {f : Str} (hf : f ∈ cc.flds) {σ : L2.St} {H : Hp} {Q : VK} (h : tE W E (ev (W.cl k) (.fld a f)) σ H Q) : tFld W.K (tE W E (ev (W.cl k) a)) f σ H Q := by
  have h' : tE W E (fun ρ st => (ev (W.cl k) a ρ st).bind fun x st => fldD x f st) σ H Q := by
    obtain ⟨m, ρ, st, s, rr, p⟩ := h; rw [ev] at p; exact ⟨m, ρ, st, s, rr, p⟩
  refine h'.one fun m st H d v s r p => ?_
  unfold fldD at p
  split at p
  · split at p
    · rename_i n c fs hc
      obtain ⟨ad, had, dx, gs, hcl, h1, h2⟩ := s.at hc
      rw [Rp] at r
      obtain ⟨a', ha', rfl⟩ := r
      rw [had] at ha'; cases ha'
      have p' : ∃ y, fs.lookup f = some y ∧ Pg W E m H (.ok y st) (kD W Q) := by
        cases q : fs.lookup f with
        | some y => rw [q] at p; exact ⟨y, rfl, p⟩
        | none => rw [q] at p; exact p.elim
      obtain ⟨y, hy, p⟩ := p'
      obtain ⟨z, hz, rz⟩ := h2.lookup hy
      exact ⟨ad, _, dx, gs, z, rfl, h1, hW.cls c hcl, hW.nf c f hcl hf, hz, kD_now p s rz⟩
    · exact p.elim
  · exact p.elim
theorem bl_of {x : Str} (hX : XOk W cc Ns scp k E X) (hW : WOk W cc) (h : blB cc scp x = true) : Gl X x ∧ X.mg x = none ∧ x ≠ "__name__" ∧ (x == ("__debug__" : Str)) = false := by
  unfold blB at h
  rw [Bool.and_eq_true, Bool.and_eq_true, decide_eq_true_eq, decide_eq_true_eq] at h
  obtain ⟨g1, g2⟩ := gl_of h.1.1 hX.sc
  exact ⟨g1, by rw [hX.mg]; exact hW.bl x h.1.2, h.2, g2⟩
theorem boot_kd (kd : Kd) : bootBuiltins (Str.ofString (kdName kd)) = some (.type (kdName kd)) := by cases kd <;> decide +kernel
theorem boot_bi (b : Bi) : bootBuiltins (biName b) = some (biVal b) := by cases b <;> decide +kernel
theorem isi_E {a : IE} {kd : Kd} {σ : L2.St} {H : Hp} {Q : VK} (h : tE W E (ev (W.cl k) (.isi a kd)) σ H Q) : tCB (rIsi W.K) (tCons (tE W E (ev (W.cl k) a)) (tCons (tC (.ty (kdName kd))) tNil)) σ H Q := by
  have h' : tE W E (fun ρ st => (ev (W.cl k) a ρ st).bind fun x st => isiD x kd st) σ H Q := by
    obtain ⟨m, ρ, st, s, rr, p⟩ := h; rw [ev] at p; exact ⟨m, ρ, st, s, rr, p⟩
  exact h'.one fun m st H d v s r p => isi_ok s r p
theorem pe_isiE (hX : XOk W cc Ns scp k E X) (hW : WOk W cc) {a : IE} {kd : Kd} {x : Expr} {nm t : Str} {p p2 pos : Pos} (hn : nm = "isinstance") (ht : t = Str.ofString (kdName kd)) (h1 : blB cc scp nm = true) (h2 : blB cc scp t = true) (hs : isStar x = false)
    (he : PE X x (tE W E (ev (W.cl k) a))) : PE X (.Call (.Name nm p) [x, .Name t p2] [] pos) (tE W E (ev (W.cl k) (.isi a kd))) := by
  obtain ⟨g1, g2, g3, g4⟩ := bl_of hX hW h1
  obtain ⟨k1, k2, k3, k4⟩ := bl_of hX hW h2
  subst hn ht
  have c := call_isi (X := X)
  rw [hX.K] at c
  exact PE.weak (pe_callB c g1 g2 (by decide +kernel) (pa_cons he (pa_cons (pe_bltn k1 k2 (boot_kd kd) (v := .ty (kdName kd)) rfl k3 k4) pa_nil) (star_cons hs)) g3 g4 (star_cons hs) rfl) fun σ H Q w => isi_E w
theorem bi_E {a : IE} {b : Bi} {σ : L2.St} {H : Hp} {Q : VK} (h : tE W E (ev (W.cl k) (.bi b a)) σ H Q) : tCB (rBi W b) (tCons (tE W E (ev (W.cl k) a)) tNil) σ H Q := by
  have h' : tE W E (fun ρ st => (ev (W.cl k) a ρ st).bind fun x st => biD b x st) σ H Q := by
    obtain ⟨m, ρ, st, s, rr, p⟩ := h; rw [ev] at p; exact ⟨m, ρ, st, s, rr, p⟩
  exact h'.one fun m st H d v s r p => bi_ok s r p
theorem pe_biE (hX : XOk W cc Ns scp k E X) (hW : WOk W cc) {a : IE} {b : Bi} {x : Expr} {nm : Str} {p pos : Pos} (hn : nm = biName b) (h1 : blB cc scp nm = true) (hs : isStar x = false) (he : PE X x (tE W E (ev (W.cl k) a))) :
    PE X (.Call (.Name nm p) [x] [] pos) (tE W E (ev (W.cl k) (.bi b a))) := by
  obtain ⟨g1, g2, g3, g4⟩ := bl_of hX hW h1
  subst hn
  have c := call_rBi (X := X) (W := W) b hX.K hX.calm
  have hv := boot_bi b
  refine PE.weak (t := tCB (rBi W b) (tCons (tE W E (ev (W.cl k) a)) tNil)) ?_ fun σ H Q w => bi_E w
  cases b
  · exact pe_callB c g1 g2 hv (pa_cons he pa_nil (star_cons hs)) g3 g4 (star_cons hs) rfl
  · exact pe_callTy c g1 g2 hv (pa_cons he pa_nil (star_cons hs)) g3 g4 (star_cons hs) rfl
  · exact pe_callTy c g1 g2 hv (pa_cons he pa_nil (star_cons hs)) g3 g4 (star_cons hs) rfl
  · exact pe_callTy c g1 g2 hv (pa_cons he pa_nil (star_cons hs)) g3 g4 (star_cons hs) rfl
  · exact pe_callTy c g1 g2 hv (pa_cons he pa_nil (star_cons hs)) g3 g4 (star_cons hs) rfl
  · exact pe_callB c g1 g2 hv (pa_cons he pa_nil (star_cons hs)) g3 g4 (star_cons hs) rfl
theorem me0_E {a : IE} {me : Me} {σ : L2.St} {H : Hp} {Q : VK} (h : tE W E (ev (W.cl k) (.me0 me a)) σ H Q) : tBM0 W.K (meTy me) (rMe0 W me) (tE W E (ev (W.cl k) a)) σ H Q := by
  have h' : tE W E (fun ρ st => (ev (W.cl k) a ρ st).bind fun x st => if recvOk me st x = true then me0D me x st else .stuck) σ H Q := by
    obtain ⟨m, ρ, st, s, rr, p⟩ := h; rw [ev] at p; exact ⟨m, ρ, st, s, rr, p⟩
  refine h'.one fun m st H d v s r p => ?_
  obtain ⟨c, p⟩ := p.ite
  exact ⟨recv_ok s r c, me0_ok s r p⟩
theorem me1_E {a b : IE} {me : Me} {σ : L2.St} {H : Hp} {Q : VK} (h : tE W E (ev (W.cl k) (.me1 me a b)) σ H Q) : tBM W.K (meTy me) (rMe1 W me) (tE W E (ev (W.cl k) a)) (tCons (tE W E (ev (W.cl k) b)) tNil) σ H Q := by
  obtain ⟨m, ρ, st, s, r, p⟩ := h
  rw [ev] at p
  refine ⟨m, ρ, st, s, r, p.bind.imp fun d m1 st1 H1 e1 s1 p1 v rv => ?_⟩
  obtain ⟨c, p1⟩ := p1.ite
  exact ⟨recv_ok s1 rv c, m1, ρ, st1, s1, r.up s e1, p1.bind.imp fun e m2 st2 H2 e2 s2 p2 u ru => me1_ok s2 (rv.up s1 e2) ru p2⟩
theorem pe_me0E (hX : XOk W cc Ns scp k E X) {a : IE} {me : Me} {x : Expr} {nm : Str} {ap pos : Pos} (hn : nm = meName me) (hb : baseOk x = true) (hl : (ap.endLine == pos.line) = true) (hme : me = .pop ∨ me = .clear) (he : PE X x (tE W E (ev (W.cl k) a))) :
    PE X (.Call (.Attribute x nm ap) [] [] pos) (tE W E (ev (W.cl k) (.me0 me a))) := by
  subst hn
  refine PE.weak (t := tBM0 X.K (meTy me) (rMe0 W me) (tE W E (ev (W.cl k) a))) ?_ fun σ H Q w => by rw [hX.K]; exact me0_E w
  have mt := me0_mt (W := W) (X := X) me hme
  rcases hme with rfl | rfl
  · exact pe_bm0 PySem.F.plainAttrs_list PySem.F.slot_list_pop PySem.F.type_list_pop mt he (base_of hb) hl
  · exact pe_bm0 PySem.F.plainAttrs_list PySem.F.slot_list_clear PySem.F.type_list_clear mt he (base_of hb) hl
theorem pe_me1E (hX : XOk W cc Ns scp k E X) {a b : IE} {me : Me} {x y : Expr} {nm : Str} {ap pos : Pos} (hn : nm = meName me) (hb : baseOk x = true) (hl : (ap.endLine == pos.line) = true) (hme : me ≠ .clear) (hs : isStar y = false) (he : PE X x (tE W E (ev (W.cl k) a))) (hf : PE X y (tE W E (ev (W.cl k) b))) :
    PE X (.Call (.Attribute x nm ap) [y] [] pos) (tE W E (ev (W.cl k) (.me1 me a b))) := by
  subst hn
  refine PE.weak (t := tBM X.K (meTy me) (rMe1 W me) (tE W E (ev (W.cl k) a)) (tCons (tE W E (ev (W.cl k) b)) tNil)) ?_ fun σ H Q w => by rw [hX.K]; exact me1_E w
  have mt := me1_mt (W := W) (X := X) me hX.K (by have := hX.room.un; omega) hme
  have few : fewForm 0 [y] X.env pos := few_of (by rw [noStars, hs]; rfl) (by simp)
  cases me
  · exact pe_bm PySem.F.plainAttrs_list PySem.F.slot_list_append PySem.F.type_list_append mt he (pa_cons hf pa_nil (star_cons hs)) (base_of hb) few hl (star_cons hs) rfl
  · exact pe_bm PySem.F.plainAttrs_list PySem.F.slot_list_pop PySem.F.type_list_pop mt he (pa_cons hf pa_nil (star_cons hs)) (base_of hb) few hl (star_cons hs) rfl
  · exact pe_bm PySem.F.plainAttrs_list PySem.F.slot_list_extend PySem.F.type_list_extend mt he (pa_cons hf pa_nil (star_cons hs)) (base_of hb) few hl (star_cons hs) rfl
  · exact pe_bm PySem.F.plainAttrs_str PySem.F.slot_str_join PySem.F.type_str_join mt he (pa_cons hf pa_nil (star_cons hs)) (base_of hb) few hl (star_cons hs) rfl
  · exact absurd rfl hme
  · exact pe_bm PySem.F.plainAttrs_list PySem.F.slot_list_index PySem.F.type_list_index mt he (pa_cons hf pa_nil (star_cons hs)) (base_of hb) few hl (star_cons hs) rfl
  · exact pe_bm PySem.F.plainAttrs_str PySem.F.slot_str_split PySem.F.type_str_split mt he (pa_cons hf pa_nil (star_cons hs)) (base_of hb) few hl (star_cons hs) rfl
end
end Z
namespace Z
open PySem L2
section
variable {W : Wd} {cc : CC} {Ns : List Str} {scp : Scope} {k : Nat} {E : XK} {X : Cx} {C : Cl}
/-! ### targets -/
def gNames : List Nat → TGs
  | [] => gNil
  | i :: is => gCons (gName i) (gNames is)
def gIT (K : PySem.W.Frag) : IT → TG
  | .name i => gName i
  | .tup is => gTup K is.length (gNames is)
structure TOk (Ns : List Str) (scp : Scope) (fnS : Str → Bool) (X : Cx) : Prop where
  N : X.N = Ns
  nd : Ns.Nodup
  sc : X.env.scope = scp
  fn : X.fn = fnS
  calm : X.calm = true
theorem pg_nameE {fnS : Str → Bool} (hX : TOk Ns scp fnS X) {i : Nat} {e : Expr} (h : tgB Ns scp fnS i e = true) : PG X e (gName i) ∧ ∃ x p, e = .Name x p := by
  cases e with
  | Name x p =>
    unfold tgB at h
    rw [Bool.and_eq_true, decide_eq_true_eq] at h
    refine ⟨?_, x, p, rfl⟩
    have h2 := h.2
    split at h2
    · rename_i hl
      exact pg_name (by rw [hX.N]; exact hX.nd) (by rw [hX.N]; exact h.1) (.inl (by rw [hX.sc]; exact hl)) (.inr (by rw [hX.sc]; exact hl))
    · rename_i hl
      exact pg_name (by rw [hX.N]; exact hX.nd) (by rw [hX.N]; exact h.1) (.inr (by rw [hX.sc]; exact hl)) (.inl (by rw [hX.fn]; exact h2))
    · cases h2
  | _ => cases h
theorem pg_namesE {fnS : Str → Bool} (hX : TOk Ns scp fnS X) : ∀ {is : List Nat} {es : List Expr}, tgsB Ns scp fnS is es = true → PGs X es (gNames is) ∧ (assignEach es X.env).length = is.length ∧ (assignEach es X.env).findIdx? (·.1) = none
  | [], [], _ => ⟨pgs_nil, rfl, rfl⟩
  | i :: is, e :: es, h => by
    unfold tgsB at h
    rw [Bool.and_eq_true] at h
    obtain ⟨h1, x, p, rfl⟩ := pg_nameE hX h.1
    obtain ⟨h2, h3, h4⟩ := pg_namesE hX h.2
    refine ⟨pgs_cons h1 h2 rfl, ?_, ?_⟩
    · show (assignEach es X.env).length + 1 = is.length + 1
      rw [h3]
    · show List.findIdx? (·.1) ((false, assign (.Name x p) X.env) :: assignEach es X.env) = none
      rw [List.findIdx?_cons, h4]; rfl
  | [], _ :: _, h => by cases h
  | _ :: _, [], h => by cases h
theorem pg_IT {fnS : Str → Bool} (hX : TOk Ns scp fnS X) {t : IT} {e : Expr} (h : chkT Ns scp fnS t e = true) : PG X e (gIT X.K t) := by
  cases t with
  | name i => exact (pg_nameE hX h).1
  | tup is =>
    cases e with
    | Tuple es j pos =>
      obtain ⟨h2, h3, h4⟩ := pg_namesE hX h
      exact pg_tup hX.calm h2 h3 h4
    | _ => cases h
section
variable {m : List Addr} {H : Hp}
theorem names_ok : ∀ {is : List Nat} {ds : List D} {vs : List V} {ρ : Env} {σ : L2.St} {Q : L2.St → Hp → Prop}, Rps W.K H m ds vs → EnvR W H m ρ σ → ds.length = is.length →
    (∀ σ', EnvR W H m ((is.zip ds).foldl (fun ρ p => ρ.set p.1 (some p.2)) ρ) σ' → (∀ vz, (∀ i ∈ is, i ∈ vz) → L2.wipe σ' vz = L2.wipe σ vz) → Q σ' H) → gNames is vs σ H Q
  | [], [], vs, ρ, σ, Q, r, e, _, h => by
    rw [Rps] at r
    exact ⟨r, h σ e fun _ _ => rfl⟩
  | i :: is, d :: ds, vs, ρ, σ, Q, r, e, hl, h => by
    rw [Rps] at r
    obtain ⟨v, vs', rfl, r1, r2⟩ := r
    refine ⟨v, vs', rfl, ?_⟩
    show gNames is vs' (σ.set i (some v)) H Q
    refine names_ok r2 (e.set r1) (by simpa using hl) fun σ' e' hw => h σ' e' fun vz hz => ?_
    rw [hw vz fun j hj => hz j (List.mem_cons_of_mem _ hj)]
    have hi := hz i List.mem_cons_self
    clear hw hz h
    induction vz with
    | nil => simp at hi
    | cons z vz ih =>
      unfold L2.wipe
      by_cases hc : i ∈ vz
      · rw [ih hc]
      · have : i = z := by simpa [hc] using hi
        subst this
        have aux : ∀ (vz : List Nat) (τ : L2.St) (x : Option V), i ∉ vz → L2.wipe (τ.set i x) vz = (L2.wipe τ vz).set i x := by
          intro vz
          induction vz with
          | nil => intro τ x _; rfl
          | cons z vz ih2 =>
            intro τ x hn
            simp only [List.mem_cons, not_or] at hn
            unfold L2.wipe
            rw [ih2 τ x hn.2, List.set_comm _ _ hn.1]
        rw [aux vz σ _ hc, List.set_set]
  | [], _ :: _, _, _, _, _, _, _, hl, _ => by simp at hl
  | _ :: _, [], _, _, _, _, _, _, hl, _ => by simp at hl
/-- a target takes a value -/
theorem gIT_ok {t : IT} {d : D} {v : V} {ρ ρ' : Env} {σ : L2.St} {Q : L2.St → Hp → Prop} (r : Rp W.K H m d v) (e : EnvR W H m ρ σ) (h : asgT ρ t d = some ρ')
    (q : ∀ σ', EnvR W H m ρ' σ' → (∀ vz, (∀ i ∈ t.slots, i ∈ vz) → L2.wipe σ' vz = L2.wipe σ vz) → Q σ' H) : gIT W.K t v σ H Q := by
  cases t with
  | name i =>
    unfold asgT at h
    cases h
    refine q _ (e.set r) fun vz hz => ?_
    have z := names_ok (W := W) (is := [i]) (ds := [d]) (vs := [v]) (Q := fun σ' _ => ∀ vz, (∀ j ∈ [i], j ∈ vz) → L2.wipe σ' vz = L2.wipe σ vz) (Rps.one r) e rfl fun σ' _ hw => hw
    obtain ⟨v', vs', e1, z⟩ := z
    cases e1
    exact z.2 vz hz
  | tup is =>
    cases d with
    | tup ds =>
      unfold asgT at h
      simp only at h
      split at h
      · rename_i hl
        cases h
        obtain ⟨a, vs, rfl, h1, h2⟩ := r.tup_ref
        exact ⟨a, vs, rfl, h1, by rw [h2.len]; exact hl, names_ok h2 e hl q⟩
      · cases h
    | _ => cases h
end
end
end Z
namespace Z
open PySem L2
section
variable {W : Wd} {cc : CC} {Ns : List Str} {scp : Scope} {k : Nat} {E : XK} {X : Cx} {C : Cl}
/-! ### what is walked -/
/-- J walks w, wherever w's list stands as it is -/
def Walks (W : Wd) (J : It) (w : Wk) (m0 : List Addr) (H0 : Hp) : Prop := ∀ H m st, Ext m0 m H0 H → Sim W H m st → w.stays st = true → ∀ i : Nat,
  (∀ d, w.xs[i]? = some d → J.go i H ∧ ∀ x H', J.yld i H x H' → Ext m m H H' ∧ Sim W H' m st ∧ Rp W.K H' m d x) ∧ (w.xs.length ≤ i → J.stop i H)
def tI (W : Wd) (E : XK) (f : Env → Sto → R Wk) : TI := fun σ H Rr => ∃ m ρ st, Sim W H m st ∧ EnvR W H m ρ σ ∧ Pg W E m H (f ρ st) fun w m' _ H' => ∀ J, Walks W J w m' H' → Rr J H'
theorem walks_tup {a : Addr} {vs : List V} {xs : List D} {m : List Addr} {H : Hp} {st : Sto} (s : Sim W H m st) (h1 : SqT W.K H a vs) (h2 : Rps W.K H m xs vs) : Walks W (Itt W.K a) ⟨xs, none⟩ m H := by
  intro H1 m1 st1 e s1 _ i
  have q1 := sqT_up s e h1
  have q2 := h2.up s e
  refine ⟨fun d hd => ?_, fun hi => ⟨vs, q1, by rw [q2.len]; exact hi⟩⟩
  obtain ⟨v, hv, rv⟩ := q2.get hd
  refine ⟨⟨vs, v, q1, hv⟩, fun x H' y => ?_⟩
  have := y.2 vs q1
  rw [hv] at this; cases this
  rw [y.1]
  exact ⟨Ext.refl, s1, rv⟩
theorem walks_fl {a : Addr} {vs : List V} {xs : List D} {m : List Addr} {H : Hp} {st : Sto} (s : Sim W H m st) (h1 : SqF W.K H a vs) (h2 : Rps W.K H m xs vs) : Walks W (Itl W.K a) ⟨xs, none⟩ m H := by
  intro H1 m1 st1 e s1 _ i
  have q1 := (sqF_up s e h1).l
  have q2 := h2.up s e
  refine ⟨fun d hd => ?_, fun hi => ⟨vs, q1, by rw [q2.len]; exact hi⟩⟩
  obtain ⟨v, hv, rv⟩ := q2.get hd
  refine ⟨⟨vs, v, q1, hv⟩, fun x H' y => ?_⟩
  have := y.2 vs q1
  rw [hv] at this; cases this
  rw [y.1]
  exact ⟨Ext.refl, s1, rv⟩
theorem walks_lst {a : Addr} {xs : List D} {n : Nat} {m : List Addr} {H : Hp} (ha : m[n]? = some a) : Walks W (Itl W.K a) ⟨xs, some (n, .lst xs)⟩ m H := by
  intro H1 m1 st1 e s1 hs i
  have hs : decide (st1[n]? = some (.lst xs)) = true := hs
  have hs := of_decide_eq_true hs
  obtain ⟨b, hb, vs, h1, h2⟩ := s1.at hs
  have := e.at ha
  rw [hb] at this; cases this
  refine ⟨fun d hd => ?_, fun hi => ⟨vs, SqL.of h1, by rw [h2.len]; exact hi⟩⟩
  obtain ⟨v, hv, rv⟩ := h2.get hd
  refine ⟨⟨vs, v, SqL.of h1, hv⟩, fun x H' y => ?_⟩
  have := y.2 vs (SqL.of h1)
  rw [hv] at this; cases this
  rw [y.1]
  exact ⟨Ext.refl, s1, rv⟩
theorem rngW_get {lo : Int} {n i : Nat} {d : D} (h : (rngW lo n).xs[i]? = some d) : i < n ∧ d = .int (lo + (i : Int)) := by
  unfold rngW at h
  simp only [List.getElem?_map] at h
  cases q : (List.range n)[i]? with
  | none => rw [q] at h; cases h
  | some j =>
    rw [q] at h
    obtain ⟨h1, h2⟩ := List.getElem?_eq_some_iff.mp q
    simp at h1 h2
    subst h2
    cases h
    exact ⟨h1, rfl⟩
theorem rngW_len {lo : Int} {n : Nat} : (rngW lo n).xs.length = n := by unfold rngW; simp
theorem walks_rng {lo : Int} {n : Nat} {m : List Addr} {H : Hp} : Walks W (Itr lo n) (rngW lo n) m H := by
  intro H1 m1 st1 e s1 _ i
  refine ⟨fun d hd => ?_, fun hi => by rw [rngW_len] at hi; exact hi⟩
  obtain ⟨h1, rfl⟩ := rngW_get hd
  exact ⟨h1, fun x H' y => by rw [y.1]; exact ⟨Ext.refl, s1, by rw [Rp]; exact y.2⟩⟩
theorem enumD_get (xs : List D) : ∀ (k i : Nat), (enumD k xs)[i]? = (xs[i]?).map fun x => D.tup [.int ((k + i : Nat) : Int), x] := by
  induction xs with
  | nil => intro k i; simp [enumD]
  | cons x xs ih =>
    intro k i
    rw [enumD]
    cases i with
    | zero => simp
    | succ i =>
      rw [List.getElem?_cons_succ, List.getElem?_cons_succ, ih]
      have : k + 1 + i = k + (i + 1) := by omega
      rw [this]
theorem enumD_len (xs : List D) : ∀ k, (enumD k xs).length = xs.length := by
  induction xs with
  | nil => intro k; rfl
  | cons x xs ih => intro k; rw [enumD, List.length_cons, List.length_cons, ih]
/-- one turn over numbered items -/
theorem enum_turn {a : Addr} {xs : List D} {vs : List V} {m1 : List Addr} {H1 : Hp} {st1 : Sto} (s1 : Sim W H1 m1 st1) (q1 : SqL W.K H1 a vs) (q2 : Rps W.K H1 m1 xs vs) (i : Nat) :
    (∀ d, (enumD 0 xs)[i]? = some d → (Ite W.K a).go i H1 ∧ ∀ x H', (Ite W.K a).yld i H1 x H' → Ext m1 m1 H1 H' ∧ Sim W H' m1 st1 ∧ Rp W.K H' m1 d x) ∧ ((enumD 0 xs).length ≤ i → (Ite W.K a).stop i H1) := by
  refine ⟨fun d hd => ?_, fun hi => ⟨vs, q1, by rw [enumD_len] at hi; rw [q2.len]; exact hi⟩⟩
  rw [enumD_get] at hd
  obtain ⟨x, hx, rfl⟩ := Option.map_eq_some_iff.mp hd
  obtain ⟨v, hv, rv⟩ := q2.get hx
  refine ⟨⟨vs, v, q1, hv⟩, fun y H' hy => ?_⟩
  obtain ⟨T, z, rfl, hT, rfl, hz⟩ := hy
  have := hz vs q1
  rw [hv] at this; cases this
  obtain ⟨s2, e2⟩ := s1.laid hT (.tup [.int (i : Nat), v])
  refine ⟨e2, s2, ?_⟩
  rw [Rp]
  refine ⟨T, [.int (i : Nat), v], rfl, SqT.of upd_same, ?_⟩
  rw [Rps]
  refine ⟨_, _, rfl, by rw [Rp, Nat.zero_add], .one (rv.up s1 e2)⟩
theorem pi_enumE (hX : XOk W cc Ns scp k E X) (hW : WOk W cc) {x : Expr} {a : IE} {nm : Str} {p pos tpos : Pos} {elts : List Expr} {kk : Nat} (hn : nm = "enumerate") (h1 : blB cc scp nm = true) (hs : isStar x = false) (he : PE X x (tE W E (ev C a))) :
    PI X (.Tuple elts kk tpos) (.Call (.Name nm p) [x] [] pos) (tI W E (evI C (.enum a))) := by
  obtain ⟨g1, g2, g3, g4⟩ := bl_of hX hW h1
  subst hn
  refine ⟨fun pins s σ H Rr I h => (pi_enum (tpos := tpos) (elts := elts) (kk := kk) g1 g2 (pa_cons he pa_nil (star_cons hs)) (star_cons hs)).run pins s σ H Rr I ?_⟩
  obtain ⟨m, ρ, st, sm, r, p⟩ := h
  rw [evI] at p
  refine ⟨m, ρ, st, sm, r, p.bind.imp fun d m1 st1 H1 e1 s1 p1 v rv => ?_⟩
  rw [hX.K]
  split at p1
  · rename_i n
    unfold wkD at p1
    simp only at p1
    split at p1
    · rename_i xs hx
      have p1 : Pg W E m1 H1 (.ok (Wk.enum ⟨xs, some (n, .lst xs)⟩) st1) _ := p1
      obtain ⟨b, rfl, hb, vs, h1, h2⟩ := loc_at s1 rv hx
      refine ⟨b, vs, rfl, SqL.of h1, p1.now s1 _ fun H2 m2 st2 e2 s2 hst i => ?_⟩
      have hst : decide (st2[n]? = some (.lst xs)) = true := hst
      have hst := of_decide_eq_true hst
      obtain ⟨c, hc, us, g1, g2⟩ := s2.at hst
      have := e2.at hb
      rw [hc] at this; cases this
      exact enum_turn s2 (SqL.of g1) g2 i
    · exact p1.elim
  · rename_i xs
    have p1 : Pg W E m1 H1 (.ok (Wk.enum ⟨xs, none⟩) st1) _ := p1
    rw [Rp] at rv
    obtain ⟨b, vs, rfl, h1, h2⟩ := rv
    exact ⟨b, vs, rfl, h1.l, p1.now s1 _ fun H2 m2 st2 e2 s2 hst i => enum_turn s2 (sqF_up s1 e2 h1).l (h2.up s1 e2) i⟩
  · exact p1.elim
theorem pi_itE {tg l : Expr} {a : IE} (hK : X.K = W.K) (he : PE X l (tE W E (ev C a))) : PI X tg l (tI W E (evI C (.it a))) := by
  refine ⟨fun pins s σ H Rr I h => ?_⟩
  obtain ⟨m, ρ, st, sm, r, p⟩ := h
  rw [evI] at p
  cases hev : ev C a ρ st with
  | stuck => rw [hev] at p; exact p.elim
  | exc e st1 =>
    refine (pi_list (tg := tg) he).run pins s σ H Rr I ⟨m, ρ, st, sm, r, ?_⟩
    rw [hev] at p ⊢
    exact p
  | ok d st1 =>
    rw [hev] at p
    have p : Pg W E m H (wkD d st1) _ := p
    cases d with
    | tup xs =>
      refine (pi_tup (tg := tg) he).run pins s σ H Rr I ⟨m, ρ, st, sm, r, ?_⟩
      rw [hev]
      intro H1 m1 e1 s1 v rv
      obtain ⟨b, vs, rfl, h1, h2⟩ := rv.tup_ref
      refine ⟨b, rfl, ⟨vs, by rw [hK]; exact h1⟩, p.go e1 s1 _ ?_⟩
      rw [hK]
      exact walks_tup s1 h1 h2
    | fl xs =>
      refine (pi_list (tg := tg) he).run pins s σ H Rr I ⟨m, ρ, st, sm, r, ?_⟩
      rw [hev]
      intro H1 m1 e1 s1 v rv
      rw [Rp] at rv
      obtain ⟨b, vs, rfl, h1, h2⟩ := rv
      refine ⟨b, rfl, ⟨vs, by rw [hK]; exact h1.l⟩, p.go e1 s1 _ ?_⟩
      rw [hK]
      exact walks_fl s1 h1 h2
    | loc n =>
      unfold wkD at p
      simp only at p
      split at p
      · rename_i xs hx
        refine (pi_list (tg := tg) he).run pins s σ H Rr I ⟨m, ρ, st, sm, r, ?_⟩
        rw [hev]
        intro H1 m1 e1 s1 v rv
        rw [Rp] at rv
        obtain ⟨b, hb, rfl⟩ := rv
        obtain ⟨b', hb', vs, h1, h2⟩ := s1.at hx
        rw [hb] at hb'; cases hb'
        refine ⟨b, rfl, ⟨vs, SqL.of h1⟩, p.go e1 s1 _ ?_⟩
        rw [hK]
        exact walks_lst hb
      · exact p.elim
    | _ => exact p.elim
theorem Pg.iOf {β : Type} {m : List Addr} {H : Hp} {d : D} {st : Sto} {f : Int → Sto → R β} {q : β → List Addr → Sto → Hp → Prop} (h : Pg W E m H ((iOf st d).bind f) q) : ∃ b, d = .int b ∧ Pg W E m H (f b st) q := by
  cases d with
  | int b => exact ⟨b, rfl, h⟩
  | _ => exact h.elim
theorem pi_rng1E (hX : XOk W cc Ns scp k E X) (hW : WOk W cc) {tg x : Expr} {a : IE} {nm : Str} {p pos : Pos} (hn : nm = "range") (h1 : blB cc scp nm = true) (hs : isStar x = false) (he : PE X x (tE W E (ev C a))) :
    PI X tg (.Call (.Name nm p) [x] [] pos) (tI W E (evI C (.rng1 a))) := by
  obtain ⟨g1, g2, g3, g4⟩ := bl_of hX hW h1
  subst hn
  refine ⟨fun pins s σ H Rr I h => (pi_range1 (tg := tg) g1 g2 (pa_cons he pa_nil (star_cons hs)) (star_cons hs)).run pins s σ H Rr I ?_⟩
  obtain ⟨m, ρ, st, sm, r, p⟩ := h
  rw [evI] at p
  refine ⟨m, ρ, st, sm, r, p.bind.imp fun d m1 st1 H1 e1 s1 p1 v rv => ?_⟩
  obtain ⟨i, rfl, p2⟩ := p1.iOf
  obtain ⟨c, p2⟩ := p2.ite
  rw [Rp] at rv; subst rv
  exact ⟨i, rfl, c.1, c.2, p2.now s1 _ walks_rng⟩
theorem pi_rng2E (hX : XOk W cc Ns scp k E X) (hW : WOk W cc) {tg x y : Expr} {a b : IE} {nm : Str} {p pos : Pos} (hn : nm = "range") (h1 : blB cc scp nm = true) (hs : isStar x = false) (hs2 : isStar y = false) (he : PE X x (tE W E (ev C a))) (hf : PE X y (tE W E (ev C b))) :
    PI X tg (.Call (.Name nm p) [x, y] [] pos) (tI W E (evI C (.rng2 a b))) := by
  obtain ⟨g1, g2, g3, g4⟩ := bl_of hX hW h1
  subst hn
  refine ⟨fun pins s σ H Rr I h => (pi_range2 (tg := tg) g1 g2 (pa_cons he (pa_cons hf pa_nil (star_cons hs2)) (star_cons hs)) (by rw [star_cons hs, star_cons hs2]; rfl) (star_cons hs2)).run pins s σ H Rr I ?_⟩
  obtain ⟨m, ρ, st, sm, r, p⟩ := h
  rw [evI] at p
  refine ⟨m, ρ, st, sm, r, p.bind.imp fun d m1 st1 H1 e1 s1 p1 v rv => ?_⟩
  refine ⟨m1, ρ, st1, s1, r.up sm e1, p1.bind.imp fun d2 m2 st2 H2 e2 s2 p2 u ru => ?_⟩
  obtain ⟨i, rfl, p3⟩ := p2.iOf
  obtain ⟨j, rfl, p4⟩ := p3.iOf
  obtain ⟨c, p5⟩ := p4.ite
  rw [Rp] at rv ru; subst rv ru
  exact ⟨i, j, rfl, ⟨c.1.1, c.1.2, c.2.1, c.2.2⟩, p5.now s2 _ walks_rng⟩

/-! ### comprehensions -/
theorem bind_ok {α β : Type} {r : R α} {f : α → Sto → R β} {b : β} {st : Sto} (h : r.bind f = .ok b st) : ∃ a st', r = .ok a st' ∧ f a st' = .ok b st := by
  cases r with
  | ok a st' => exact ⟨a, st', rfl, h⟩
  | exc e st' => cases h
  | stuck => cases h
def tC' (W : Wd) (E : XK) (f : Env → Sto → R Bool) : TT := tT W E f
theorem wipe_wipe (σ : L2.St) : ∀ vs : List Nat, L2.wipe (L2.wipe σ vs) vs = L2.wipe σ vs := by
  have set_none : ∀ (vs : List Nat) (τ : L2.St) (i : Nat), L2.wipe (τ.set i none) vs = (L2.wipe τ vs).set i none := by
    intro vs
    induction vs with
    | nil => intro τ i; rfl
    | cons z vz ih2 =>
      intro τ i
      unfold L2.wipe
      rw [ih2]
      by_cases h : i = z
      · subst h; rfl
      · rw [List.set_comm _ _ h]
  intro vs
  induction vs with
  | nil => rfl
  | cons v vs ih =>
    show (L2.wipe ((L2.wipe σ vs).set v none) vs).set v none = (L2.wipe σ vs).set v none
    rw [set_none, ih, List.set_set]
abbrev E0 : XK := fun _ _ _ => False
theorem comp_E {it : II} {t : IT} {own : List Nat} {c : IO} {e : IE} (hown : ∀ i ∈ t.slots, i ∈ own) {σ : L2.St} {H : Hp} {Q : VK} (h : tE W E (ev C (.comp e t own it c)) σ H Q) :
    tLc (tI W E (evI C it)) (gIT W.K t) (tT W E0 (evC C c)) (tE W E0 (ev C e)) own σ H Q := by
  obtain ⟨m, ρ, st, s, r, p⟩ := h
  have p : Pg W E m H ((evI C it ρ st).bind fun w st => ((compL w (turnC C t own c e ρ) w.xs st).noex).bind fun ys st => if ys.length ≤ LIM then .ok (.loc st.length) (st ++ [.lst ys]) else .stuck) (kD W Q) := by
    rw [ev] at p; exact p
  refine ⟨m, ρ, st, s, r, p.bind.imp fun w m1 st1 H1 e1 s1 p1 J hJ D0 hD0 => ?_⟩
  -- the whole comes to YS
  have r1 := r.up s e1
  obtain ⟨YS, stE, hall, p2⟩ : ∃ YS stE, compL w (turnC C t own c e ρ) w.xs st1 = .ok YS stE ∧ Pg W E m1 H1 (if YS.length ≤ LIM then .ok (.loc stE.length) (stE ++ [.lst YS]) else .stuck) (kD W Q) := by
    cases q : compL w (turnC C t own c e ρ) w.xs st1 with
    | ok YS stE => rw [q] at p1; exact ⟨YS, stE, rfl, p1⟩
    | exc x st2 => rw [q] at p1; exact p1.elim
    | stuck => rw [q] at p1; exact p1.elim
  obtain ⟨hlim, p2⟩ := p2.ite
  have stays_of : ∀ {xs : List D} {st2 : Sto} {zs : List D}, compL w (turnC C t own c e ρ) xs st2 = .ok zs stE → w.stays st2 = true := fun {xs st2 zs} h => by
    cases xs with
    | nil => unfold compL at h; split at h; assumption; cases h
    | cons x xs => unfold compL at h; split at h; assumption; cases h
  refine ⟨fun i mm H2 => mm = w.xs.length - i ∧ i ≤ w.xs.length ∧ ∃ m2 st2 acc ys zs, Sim W H2 m2 st2 ∧ Ext m1 m2 H1 H2 ∧ H2 D0 = some (.lst acc) ∧ D0 ∉ m2 ∧ Rps W.K H2 m2 ys acc ∧
    compL w (turnC C t own c e ρ) (w.xs.drop i) st2 = .ok zs stE ∧ ys ++ zs = YS ∧ EnvR W H2 m2 ρ σ, ⟨w.xs.length, by simp, Nat.zero_le _, ?_⟩, ?_⟩
  · obtain ⟨s2, e2⟩ := s1.laid hD0 (.lst [])
    refine ⟨m1, st1, [], [], YS, s2, e2, upd_same, fun z => ?_, by rw [Rps], by simpa using hall, rfl, r1.up s1 e2⟩
    obtain ⟨o, ho, _⟩ := s1.mu z
    rw [hD0] at ho; cases ho
  · rintro i mm H2 ⟨rfl, hi, m2, st2, acc, ys, zs, s2, e2, hD, hn, ra, hc, hz, r2⟩
    have hst := stays_of hc
    obtain ⟨w1, w2⟩ := hJ H2 m2 st2 e2 s2 hst i
    by_cases hlt : i < w.xs.length
    · right
      rw [List.drop_eq_getElem_cons hlt] at hc
      unfold compL at hc
      rw [if_pos hst] at hc
      obtain ⟨o, st3, h3, hc⟩ := bind_ok hc
      obtain ⟨zs', st4, h4, hc⟩ := bind_ok hc
      injection hc with hz1 hz2
      subst hz2
      obtain ⟨g1, g2⟩ := w1 _ (List.getElem?_eq_getElem hlt)
      refine ⟨g1, fun H' => ∃ m2 st2 acc ys zs, Sim W H' m2 st2 ∧ Ext m1 m2 H1 H' ∧ H' D0 = some (.lst acc) ∧ D0 ∉ m2 ∧ Rps W.K H' m2 ys acc ∧
        compL w (turnC C t own c e ρ) (w.xs.drop (i + 1)) st2 = .ok zs st4 ∧ ys ++ zs = YS ∧ EnvR W H' m2 ρ σ, fun H' q => ⟨w.xs.length - (i + 1), by omega, rfl, hlt, q⟩, fun x H' hy => ?_⟩
      obtain ⟨ey, sy, rx⟩ := g2 x H' hy
      obtain ⟨hD', hn'⟩ := ey.keep D0 _ hD (fun _ z => HO.noConfusion z) hn
      replace ra := ra.up s2 ey
      replace r2 := r2.up s2 ey
      replace e2 := e2.trans ey
      replace s2 := sy
      replace hD := hD'
      replace hn := hn'
      unfold turnC at h3
      split at h3
      · rename_i ρ' hρ
        refine gIT_ok rx (r2.wipe own) hρ fun σ' r3 hw => ⟨by rw [hw own hown, wipe_wipe], m2, ρ', st2, s2, r3, ?_⟩
        obtain ⟨b, st5, h5, h3⟩ := bind_ok h3
        rw [h5]
        intro H5 m5 e5 s5
        obtain ⟨k1, k2⟩ := e5.keep D0 _ hD (fun _ z => HO.noConfusion z) hn
        cases b with
        | true =>
          refine iteT ⟨m5, ρ', st5, s5, r3.up s2 e5, ?_⟩
          rw [if_pos rfl] at h3
          obtain ⟨y, st6, h6, h3⟩ := bind_ok h3
          rw [h6]
          intro H6 m6 e6 s6 v rv
          obtain ⟨l1, l2⟩ := e6.keep D0 _ k1 (fun _ z => HO.noConfusion z) k2
          injection h3 with h31 h32
          subst h31 h32
          have hlen : ys.length + 1 + zs'.length = YS.length := by rw [← hz, ← hz1]; simp; omega
          have e26 := (e2.trans e5).trans e6
          refine ⟨acc, l1, by rw [ra.len]; exact lim_lt (by omega), m6, st6, acc ++ [v], ys ++ [y], zs', s6.off l1 l2, e26.off hD0, upd_same, l2, ?_, h4, ?_, ?_⟩
          · exact (((ra.up s2 (e5.trans e6)).append (.one rv))).off l1
          · rw [← hz, ← hz1]; simp
          · have := r2.up s2 (e5.trans e6)
            exact ⟨this.1, fun j d hj => by
              obtain ⟨u, hu, ru⟩ := this.2 j d hj
              exact ⟨u, hu, ru.off l1⟩⟩
        | false =>
          refine iteF ?_
          rw [if_neg Bool.false_ne_true] at h3
          injection h3 with h31 h32
          subst h31 h32
          exact ⟨m5, st5, acc, ys, zs', s5, e2.trans e5, k1, k2, ra.up s2 e5, h4, by rw [← hz, ← hz1], r2.up s2 e5⟩
      · cases h3
    · left
      have hi' : i = w.xs.length := by omega
      subst hi'
      refine ⟨w2 (Nat.le_refl _), ?_⟩
      rw [List.drop_length] at hc
      unfold compL at hc
      rw [if_pos hst] at hc
      injection hc with hz1 hz2
      subst hz1 hz2
      rw [List.append_nil] at hz
      subst hz
      refine p2.go (e2.adopt hD0) (s2.adopt hD hn ra) _ ?_
      rw [Rp]
      refine ⟨D0, ?_, rfl⟩
      rw [List.getElem?_append_right (by rw [s2.len]; exact Nat.le_refl _), s2.len]
      simp
end
end Z
/-! a work told of: x(lambda: e) -/
namespace Z
open PySem L2
/-- a code object is no dict -/
theorem codeO_nd {P : Program} {w : World} {c : Addr} {q : Str} {xs : NdX} : LamX.CodeO c q ≠ NdO P w c xs := fun z => by
  have e : (fun h => ∃ (oc : Obj) (vs : Array Value) (t : Tok), h.get? c = some oc ∧ oc.data = .fields vs ∧ vs[1]? = some (.str q t)) = NdR P w c xs := HO.ext.inj z
  let o : Obj := { cls := .none, data := .fields #[.none, .str q 0] }
  let h : Heap := { (default : Heap) with objs := Array.replicate (c + 1) o }
  have hg : h.get? c = some o := by
    have e1 : h.objs[c]? = some o := by
      show (Array.replicate (c + 1) o)[c]? = some o
      simp
    unfold Heap.get?
    rw [e1]
  have h1 : NdR P w c xs h := by rw [← e]; exact ⟨o, _, 0, hg, rfl, rfl⟩
  obtain ⟨_, _, o', es, ep, e1, _, e2, _⟩ := h1
  rw [hg] at e1
  cases e1
  cases e2
section
variable {W : Wd} {cc : CC} {Ns : List Str} {scp : Scope} {k : Nat} {E : XK} {X : Cx} {C : Cl} {H H1 : Hp} {m : List Addr} {st : Sto}
theorem TabZ.tabs (t : TabZ W.T H m) : LamX.Tabs W.T H := fun p hp => by
  obtain ⟨ps, h1, h2, h3⟩ := t p hp
  refine ⟨ps, h1, h2, fun pos cv hc => ?_⟩
  obtain ⟨c, e1, e2, _⟩ := h3 pos cv hc
  exact ⟨c, e1, e2⟩
/-- all but the tables stays: the store is still told -/
theorem Sim.tabs (s : Sim W H m st) (e : LamX.ExtN H H1) (t : LamX.Tabs W.T H1) : Sim W H1 m st ∧ Ext m m H H1 := by
  have ex : Ext m m H H1 := ⟨⟨[], by simp⟩, fun a o h nt n => ⟨e a o h nt, n⟩⟩
  have hat : ∀ a ∈ m, H1 a = H a := fun a ha => by
    obtain ⟨o, h, hm⟩ := s.mu ha
    rw [h, e a o h fun ps z => by rw [z] at hm; cases hm]
  refine ⟨⟨s.len, s.nd, fun i c a h1 h2 => (s.ok i c a h1 h2).up s ex (hat a (List.mem_of_getElem? h2)), fun p hp => ?_⟩, ex⟩
  obtain ⟨ps, h1, h2, h3⟩ := t p hp
  refine ⟨ps, h1, h2, fun pos cv hc => ?_⟩
  obtain ⟨c, e1, e2⟩ := h3 pos cv hc
  refine ⟨c, e1, e2, fun z => ?_⟩
  rw [hat c z] at e2
  obtain ⟨i, hi⟩ := List.getElem?_of_mem z
  have hl : i < st.length := by rw [← s.len]; exact (List.getElem?_eq_some_iff.mp hi).1
  have q := s.ok i st[i] c (List.getElem?_eq_getElem hl) hi
  cases he : st[i] with
  | lst ds => rw [he] at q; obtain ⟨vs, g, _⟩ := q; rw [g] at e2; exact HO.noConfusion (Option.some.inj e2)
  | ins c' fs => rw [he] at q; obtain ⟨dx, gs, _, g, _⟩ := q; rw [g] at e2; exact HO.noConfusion (Option.some.inj e2)
  | dct kvs => rw [he] at q; obtain ⟨xs, g, _⟩ := q; rw [g] at e2; exact codeO_nd (Option.some.inj e2).symm
  | dck kvs => rw [he] at q; obtain ⟨xs, g, _⟩ := q; rw [g] at e2; exact HO.noConfusion (Option.some.inj e2)
/-- new things, which the store doesn't hold -/
theorem Sim.more (s : Sim W H m st) (e : ∀ b o, H b = some o → H1 b = some o) : Sim W H1 m st ∧ Ext m m H H1 := by
  have ex : Ext m m H H1 := ⟨⟨[], by simp⟩, fun a o h nt n => ⟨e a o h, n⟩⟩
  refine ⟨⟨s.len, s.nd, fun i c a h1 h2 => (s.ok i c a h1 h2).up s ex ?_, s.tb.to (fun b o h n _ => ⟨e b o h, n⟩) s.tm⟩, ex⟩
  obtain ⟨o, h, _⟩ := s.mu (List.mem_of_getElem? h2)
  rw [h, e a o h]
theorem told_E {a : IE} {σ : L2.St} {Q : VK} (h : tE W E (ev (W.cl k) (.told a)) σ H Q) : LamX.tLam W.T (TTz W) (fun E' => tE W E' (ev (W.cl k) a)) σ H Q := by
  obtain ⟨m, ρ, st, s, r, p⟩ := h
  rw [ev] at p
  refine ⟨s.tb.tabs, fun H1 e t => ?_⟩
  obtain ⟨s1, e1⟩ := s.tabs e t
  refine ⟨m, ρ, st, s1, r.up s e1, ?_⟩
  replace p := Pg.up e1 p
  have htw : (W.cl k).tw = W.pr.tw := rfl
  rw [htw] at p
  cases hr : ev (W.cl k) a ρ st with
  | ok d st' => rw [hr] at p; exact p
  | stuck => rw [hr] at p; exact p
  | exc x st' =>
    rw [hr] at p
    unfold toldR at p
    intro dx H' m' e' s' hx
    unfold ExR at hx
    dsimp only at p
    split at p
    · rename_i w h1 h2
      rw [h2] at hx
      refine ⟨x.c, w, none, .int 0, rfl, h1, fun _ => ⟨hx, rfl⟩, fun f z => (by cases z), fun H'' pp hm hp => ?_⟩
      obtain ⟨s2, e2⟩ := s'.more hm
      obtain ⟨s3, e3⟩ := s2.laid hp (.tup [.str (sOf w), .int 0])
      refine p.go ((e'.trans e2).trans e3) s3 _ ?_
      rw [Rp]
      refine ⟨pp, _, rfl, SqT.of upd_same, ?_⟩
      rw [Rps]
      exact ⟨_, _, rfl, by rw [Rp], .one (by rw [Rp])⟩
    · rename_i w f g d h1 h2
      rw [h2] at hx
      obtain ⟨aa, v, hdx, hH, rv⟩ := hx
      obtain ⟨hgf, p2⟩ := p.ite
      clear p
      subst hgf
      refine ⟨x.c, w, some g, v, rfl, h1, fun z => (by cases z), fun f z => (by cases z; exact ⟨aa, hdx, hH⟩), fun H'' pp hm hp => ?_⟩
      obtain ⟨s2, e2⟩ := s'.more hm
      obtain ⟨s3, e3⟩ := s2.laid hp (.tup [.str (sOf w), v])
      refine p2.go ((e'.trans e2).trans e3) s3 _ ?_
      rw [Rp]
      refine ⟨pp, _, rfl, SqT.of upd_same, ?_⟩
      rw [Rps]
      exact ⟨_, _, rfl, by rw [Rp], .one ((rv.up s' e2).up s2 e3)⟩
    · exact p.elim
theorem lamArgs_ok {params : Arguments} (h : lamArgs params = true) : params = ⟨[], [], none, [], [], none, []⟩ := by
  obtain ⟨a1, a2, a3, a4, a5, a6, a7⟩ := params
  unfold lamArgs at h
  simp only [Bool.and_eq_true, List.isEmpty_iff, Option.isNone_iff_eq_none] at h
  obtain ⟨⟨⟨⟨⟨⟨rfl, rfl⟩, rfl⟩, rfl⟩, rfl⟩, rfl⟩, rfl⟩ := h
  rfl
theorem WOk.nolam (h : WOk W cc) : WOk W { cc with lam := none } := ⟨h.fn, h.bi, h.gl, h.bl, h.cl, h.cls, h.nf, h.mkk, h.mt, h.td, h.x0, h.x1⟩
theorem XOk.lam (h : XOk W cc Ns scp k E X) {A : Around} {outer : List PySem.Env} {s : Shared} {H : Hp} {E' : XK} {scope : Scope} {f c' : Addr} (hr : Room (2 * k + 2) (A.deeper (LamX.lamEnv X scope s.heap.objs.size f c'))) :
    XOk W { cc with lam := none } Ns scope k E' (LamX.lamCx X A outer s H E' scope f c') :=
  ⟨h.prog, h.w, h.K, h.mg, h.base, h.N, h.nd, rfl, rfl, hr, passes_call (takes_of rfl rfl rfl rfl) fun _ _ _ _ h => h, fun c q z => nomatch z⟩
theorem pe_toldE (hX : XOk W cc Ns scp k E X) (hW : WOk W cc) {x : Str} {a : IE} {params : Arguments} {body : Expr} {scope : Scope} {p lpos pos : Pos} (hx : cc.tdef = some x) (hg : glB scp x = true) (hl : cc.lam.isSome = true) (ha : lamArgs params = true) (hs : LamX.lamSB scp scope = true)
    (hb : ∀ (E' : XK) (X' : Cx), XOk W { cc with lam := none } Ns scope k E' X' → PE X' body (tE W E' (ev (W.cl k) a))) : PE X (.Call (.Name x p) [.Lambda params body scope lpos] [] pos) (tE W E (ev (W.cl k) (.told a))) := by
  obtain ⟨g, pg, bg, sg, dV, kV, doc, pm, cdv, ct, oc, an, od, osl, Ng, b, h1, h2, h3, h4, h5, h6, h7, h8, h9, h10, hG⟩ := (hW.td x hx).ex
  obtain ⟨⟨c, q⟩, hcq⟩ := Option.isSome_iff_exists.mp hl
  obtain ⟨hr, l1, l2, P, TB, l3, l4⟩ := hX.lm c q hcq
  obtain ⟨g1, g2⟩ := gl_of hg hX.sc
  have := lamArgs_ok ha
  subst this
  refine PE.weak (LamX.pe_lamcall (T := W.T) (TT := TTz W) (k := 2 * k + 2) g1 (by rw [hX.mg]; exact h1) (by rw [hX.K]; exact h2) (by rw [hX.K]; exact h3) (by rw [hX.K]; exact h4) (by rw [hX.K]; exact h5) h6 h7 h8
    (hG X _ hX.prog hX.w hX.K hX.mg hX.base (hX.room.mono (by omega))) TB l1 (by rw [l2]; exact l3) (by rw [l2]; exact l4) hr (LamX.lamS_by (by rw [hX.sc]; exact hs)) rfl (fun _ _ _ _ _ => rfl) (fun A outer s H E' f c' hr' => hb E' _ (hX.lam hr')) g2 h9 h10) fun σ H Q w => told_E w
theorem mn2_E {mx : Bool} {a b : IE} {σ : L2.St} {Q : VK} (h : tE W E (ev (W.cl k) (.mn2 mx a b)) σ H Q) : tCB (fun xs H Q => ∃ i j : Int, xs = [.int i, .int j] ∧ Q (.int (if mx = true then (if i < j then j else i) else (if j < i then j else i))) H) (tCons (tE W E (ev (W.cl k) a)) (tCons (tE W E (ev (W.cl k) b)) tNil)) σ H Q := by
  obtain ⟨m, ρ, st, s, r, p⟩ := h
  rw [ev] at p
  refine ⟨m, ρ, st, s, r, p.bind.imp fun d m1 st1 H1 e1 s1 p1 v rv => ?_⟩
  refine ⟨m1, ρ, st1, s1, r.up s e1, p1.bind.imp fun d2 m2 st2 H2 e2 s2 p2 u ru => ?_⟩
  obtain ⟨i, rfl, p3⟩ := p2.iOf
  obtain ⟨j, rfl, p4⟩ := p3.iOf
  rw [Rp] at rv ru; subst rv ru
  exact ⟨i, j, rfl, kD_now p4 s2 (by rw [Rp])⟩
theorem pe_mn2E (hX : XOk W cc Ns scp k E X) (hW : WOk W cc) {mx : Bool} {a b : IE} {nm : Str} {x y : Expr} {p pos : Pos} (hn : nm = if mx = true then "max" else "min") (h1 : blB cc scp nm = true) (hs : isStar x = false) (hs2 : isStar y = false) (he : PE X x (tE W E (ev (W.cl k) a))) (hf : PE X y (tE W E (ev (W.cl k) b))) :
    PE X (.Call (.Name nm p) [x, y] [] pos) (tE W E (ev (W.cl k) (.mn2 mx a b))) := by
  obtain ⟨g1, g2, g3, g4⟩ := bl_of hX hW h1
  subst hn
  refine PE.weak ?_ fun σ H Q w => mn2_E w
  cases mx with
  | true => exact pe_callB (call_max2 hX.calm) g1 g2 (by decide +kernel) (pa_cons he (pa_cons hf pa_nil (star_cons hs2)) (star_cons hs)) g3 g4 (star_cons hs) (by rw [star_cons hs2]; rfl)
  | false => exact pe_callB (call_min2 hX.calm) g1 g2 (by decide +kernel) (pa_cons he (pa_cons hf pa_nil (star_cons hs2)) (star_cons hs)) g3 g4 (star_cons hs) (by rw [star_cons hs2]; rfl)
end
end Z
/-! sorted of tuples among which there is an empty one -/
namespace Z
open PySem L2 PySem.Spec PyProof.Rows PySem.W PySem.SeqAt
theorem call_tuple_lt {prog : Program} {w : World} {A : Around} {s : Shared} {E : Value → Shared → Prop} {Q : Value → Shared → Prop} {l b : Addr} {items items2 : Array Value} {e r : Nat → Bool} (hl : s.heap.IsTuple l items) (hb : s.heap.IsTuple b items2)
    (he : ∀ j (h1 : j < items.size) (h2 : j < items2.size), EqAt A.in1 s items[j] items2[j] (e j)) (hr : ∀ j (h1 : j < items.size) (h2 : j < items2.size), e j = false → RcLt A.in1 s items[j] items2[j] (r j))
    (h : Q (.bool (firstLt e r (decide (items.size < items2.size)) (List.range (min items.size items2.size)))) s) : wpAny (model prog w) A (call (.builtin "tuple.__lt__") [.ref l, .ref b]) Q E s := by
  obtain ⟨⟨cls, dd, data, sl⟩, ho, hc, n, hd⟩ := id hl
  obtain ⟨⟨cls2, dd2, data2, sl2⟩, ho2, hc2, n2, hd2⟩ := id hb
  simp only at hc hd hc2 hd2
  subst hc hd hc2 hd2
  exact call_meets F.slot_tuple_lt ⟨_, ho, rfl⟩ F.entry_tuple_lt (F.args_tuple_lt_2 _ _) (tuple_ltAt l b items items2 n n2 dd dd2 sl sl2 e r) ⟨ho, ho2, he, hr, h⟩
section
variable {prog : Program} {w : World} {A : Around} {s : Shared} {E : Value → Shared → Prop}
theorem oneLt_tup {xs ys : List PyData} {a b : Value} {as bs : List Addr} {Q : Bool → Shared → Prop} (ra : Reads s.heap a (.tuple xs) as) (rb : Reads s.heap b (.tuple ys) bs) (h : alike (.tuple xs) (.tuple ys) = true)
    (hu : A.units + min (PyData.tuple xs).depth (PyData.tuple ys).depth < cLine) (hq : Q (dataLt (.tuple xs) (.tuple ys)) s) : wpAny (model prog w) A (oneLt' true a b) Q E s := by
  have hal : alikeAll xs ys = true := by simpa [alike] using h
  cases ra with
  | @tuple l o vs n _ as₁ h1 h2 h3 h4 =>
    cases rb with
    | @tuple l' o' vs' n' _ bs₁ k1 k2 k3 k4 =>
      have n1 : vs.size = xs.length := by simpa using SeqAt.ReadsAll.length _ _ _ h4
      have n2 : vs'.size = ys.length := by simpa using SeqAt.ReadsAll.length _ _ _ k4
      rw [dataLt_tuple, ← firstLt_toks xs ys hal, ← n1, ← n2] at hq
      rw [oneLt'_eq]
      simp only [if_true]
      refine wpAny_bind (wpAny_cRoomFor (room_here hu) ?_)
      refine wpAny_bind (wpAny_callSpecialIfBound?_slot (T := "tuple") ⟨_, h1, h2⟩ F.slot_tuple_lt (call_tuple_lt (e := pairEq xs ys) (r := fun j => dataLt (xs.getD j .none) (ys.getD j .none)) ⟨_, h1, h2, _, h3⟩ ⟨_, k1, k2, _, k3⟩ (fun j j1 j2 => ?_) (fun j j1 j2 hj => ?_) ?_))
      · have := eqAt_alikeAll xs ys A.in1 s vs.toList vs'.toList _ _ h4 k4 hal (room_in hu) j (by simpa using j1) (by simpa using j2)
        simpa using this
      · have := rcLt_alikeAll xs ys A.in1 s vs.toList vs'.toList _ _ h4 k4 hal (room_in hu) j (by simpa using j1) (by simpa using j2) hj
        simpa using this
      · exact wpAny_truthy_bool hq
/-- the first items, none of an empty tuple -/
theorem tup_firsts {M : Model} : ∀ {vs : List Value} {ds : List PyData}, EachIs (fun v d => ∃ as, Reads s.heap v d as) vs ds → (∀ d, d ∈ ds → ∃ xs, d = .tuple xs) → ∃ fo : List (Option Value), ((∃ d, d ∈ ds ∧ d = .tuple []) → fo.all (·.isSome) = false) ∧
    ∀ (E : Value → Shared → Prop) {Q : List (Option Value) → Shared → Prop}, Q fo s → wpAny M A (vs.mapM firstOfTuple') Q E s
  | _, _, .nil, _ => ⟨[], fun ⟨d, hd, _⟩ => by (cases hd), fun E {Q} h => by rw [List.mapM_nil]; exact wpAny_pure h⟩
  | v :: vs, d :: ds, .cons ⟨as, r⟩ t, ht => by
    obtain ⟨fo, h1, h2⟩ := tup_firsts (M := M) t fun d hd => ht d (List.mem_cons_of_mem _ hd)
    obtain ⟨xs, rfl⟩ := ht d List.mem_cons_self
    cases r with
    | @tuple a o ws n _ _ ho hc hd hr =>
      refine ⟨ws[0]? :: fo, fun ⟨d, hd', e⟩ => ?_, fun E {Q} h => ?_⟩
      · rcases List.mem_cons.mp hd' with rfl | hd'
        · cases e
          have hl := SeqAt.ReadsAll.length _ _ _ hr
          have hz : ws.size = 0 := by simpa using hl
          have : ws[0]? = none := by rw [Array.getElem?_eq_none_iff]; omega
          rw [this]; rfl
        · rw [List.all_cons, h1 ⟨d, hd', e⟩, Bool.and_false]
      · rw [List.mapM_cons]
        refine wpAny_bind ?_
        rw [kas_first_eq]
        refine wpAny_bind (Looks.here (show Looks M s.heap (typeOf (.ref a)) o.cls from (Looks.ld ho).andThen .now) ?_)
        rw [hc, if_neg (by first | decide | simp)]
        refine wpAny_bind (listItems_at ho hd (wpAny_pure ?_))
        exact wpAny_bind (h2 E (wpAny_pure h))
theorem SortsAt.tups {vs : List Value} {ds : List PyData} (e : EachIs (fun v d => ∃ as, Reads s.heap v d as) vs ds) (hal : AllAlike ds) (ht : ∀ d, d ∈ ds → ∃ xs, d = .tuple xs) (hem : ∃ d, d ∈ ds ∧ d = .tuple []) (hu : ∀ d, d ∈ ds → A.units + d.depth < cLine) : SortsAt prog w A s (dataKind s.heap ds) vs := by
  have room : ∀ {d d' : PyData}, d ∈ ds → A.units + min d.depth d'.depth < cLine := fun {d d'} hd => Nat.lt_of_le_of_lt (Nat.add_le_add_left (Nat.min_le_left _ _) _) (hu d hd)
  refine ⟨fun v hv => ?_, ?_⟩
  · obtain ⟨d, hd, as, r⟩ := e.left v hv
    exact ⟨_, dataKind_some hal hd r⟩
  · obtain ⟨fo, hfo, hrun⟩ := tup_firsts (A := A) (s := s) (M := model prog w) e ht
    have hall := hfo hem
    have hg : H.LtAt prog w A s (dataKind s.heap ds) general' := by
      intro E x y a b Q ha hb hq
      obtain ⟨d, as, hd, ra, rfl⟩ := dataKind_inv ha
      obtain ⟨d', as', hd', rb, rfl⟩ := dataKind_inv hb
      obtain ⟨xs, rfl⟩ := ht d hd
      exact oneLt_alike (f := false) (fun z => Bool.noConfusion z) ra rb (hal _ hd _ hd') (by simp) (room hd) hq
    have ho : H.LtAt prog w A s (dataKind s.heap ds) oneType' := by
      intro E x y a b Q ha hb hq
      obtain ⟨d, as, hd, ra, rfl⟩ := dataKind_inv ha
      obtain ⟨d', as', hd', rb, rfl⟩ := dataKind_inv hb
      obtain ⟨xs, rfl⟩ := ht d hd
      obtain ⟨ys, rfl⟩ := ht d' hd'
      rw [keyLt'_oneType]
      exact oneLt_tup ra rb (hal _ hd _ hd') (room hd) hq
    have hty : ∀ v ∈ vs, Looks (model prog w) s.heap (typeOf v) (Value.type "tuple") := fun v hv => by
      obtain ⟨d, hd, as, r⟩ := e.left v hv
      obtain ⟨xs, rfl⟩ := ht d hd
      exact looks_reads r
    have hk : ∀ (E : Value → Shared → Prop) {Q : SortKind → Shared → Prop}, 2 ≤ vs.length → Q (if (fo.toArray[0]?.bind id).isSome = true then general' else oneType') s → wpAny (model prog w) A (keyKind' vs.toArray) Q E s := fun E Q h2 hq => by
      rw [keyKind'_eq, List.mapM_toArray, map_eq_pure_bind]
      refine wpAny_bind (wpAny_bind (hrun E (wpAny_pure ?_)))
      have hall' : (fo.toArray.all fun x => x.isSome) = false := by rw [List.all_toArray]; exact hall
      rw [if_neg (by rw [hall']; simp)]
      by_cases hf : (fo.toArray[0]?.bind id).isSome = true
      · rw [if_pos hf] at hq ⊢
        exact wpAny_pure hq
      · rw [if_neg hf] at hq ⊢
        rw [oneTypeOnly'_eq, List.mapM_toArray, map_eq_pure_bind]
        refine wpAny_bind (wpAny_bind (wpAny_bind (kas_mapM (r := Value.type "tuple") _ (fun v hv Q' hq => (hty v hv).here hq) (wpAny_pure ?_))))
        have ha : ((List.map (fun _ => Value.type "tuple") vs).toArray.all fun x => x == Value.type "tuple") = true := by simp
        have h0 : (List.map (fun _ => Value.type "tuple") vs).toArray[0]? = some (Value.type "tuple") := by
          cases vs with
          | nil => simp at h2
          | cons v vs => simp
        rw [h0]
        simp only [ha, if_true]
        exact wpAny_pure (wpAny_pure hq)
    by_cases hf : (fo.toArray[0]?.bind id).isSome = true
    · exact ⟨general', hg, fun h2 E Q hq => hk E h2 (by rw [if_pos hf]; exact hq)⟩
    · exact ⟨oneType', ho, fun h2 E Q hq => hk E h2 (by rw [if_neg hf]; exact hq)⟩
end
end Z
/-! sorted of data; dict(pairs) -/
namespace Z
open PySem L2 PySem.Spec PyProof.Rows PySem.W
/-- all are tuples, or none is a tuple or None -/
def SortOk (ds : List PyData) : Prop := (∀ d, d ∈ ds → ∃ xs, d = .tuple xs) ∨ ∀ d, d ∈ ds → d ≠ .none ∧ ∀ xs, d ≠ .tuple xs
def rSrtD (K : PySem.W.Frag) : List V → Hp → VK → Prop := fun vs H Q => ∃ (a : Addr) (L : List (V × PyData)), vs = [V.ref a] ∧ SqL K H a (L.map (·.1)) ∧ (∀ p ∈ L, Dp K H p.1 p.2) ∧ AllAlike (L.map (·.2)) ∧ SortOk (L.map (·.2)) ∧ (∀ d ∈ L.map (·.2), d.depth ≤ 190) ∧
  ∀ p, H p = none → Q (.ref p) (upd H p (.lst ((L.mergeSort (dataLe false (·.2))).map (·.1))))
theorem each_vals {h : Heap} {L : List (V × PyData)} : ∀ {us : List Value}, Vals (L.map (·.1)) us → (∀ p ∈ L, ∀ u, RelV p.1 u → ∃ as, Reads h u p.2 as) → EachIs (fun v p => RelV p.1 v) us L ∧ EachIs (fun v p => ∃ as, Reads h v p.2 as) us L := by
  induction L with
  | nil => intro us r _; cases r; exact ⟨.nil, .nil⟩
  | cons p L ih =>
    intro us r hd
    rw [List.map_cons] at r
    cases r with
    | cons r1 rr =>
      obtain ⟨i1, i2⟩ := ih rr fun q hq => hd q (List.mem_cons_of_mem _ hq)
      exact ⟨.cons r1 i1, .cons (hd p List.mem_cons_self _ r1) i2⟩
theorem each_back : ∀ {us : List Value} {L : List (V × PyData)}, EachIs (fun v p => RelV p.1 v) us L → Vals (L.map (·.1)) us
  | _, _, .nil => .nil
  | _, _, .cons h t => .cons h (each_back t)
theorem cr_sortedD {X : Cx} (hu : X.A.units + 200 < cLine) : CallR X (.builtin "sorted") (rSrtD X.K) := by
  intro pins s σ H vs us Q I r h
  obtain ⟨a, L, rfl, hs, hd, hal, hk, hdep, q⟩ := h
  obtain ⟨its, rv, hl, hz⟩ := I.list hs
  obtain ⟨u, rfl, ru⟩ := vals1 r
  obtain rfl : u = Value.ref a := ru
  have rd : ∀ p ∈ L, ∀ u, RelV p.1 u → ∃ as, Reads s.heap u p.2 as := fun p hp u r => Dp.reads I _ _ u (hd p hp) r
  have hz' : its.length ≤ sizeLine := by rw [← rv.length]; exact hz
  have old : ∀ b o, s.heap.get? b = some o → (sortingHeap (copyHeap s.heap its) (s.heap.objs.size + 1) its).get? b = some o := fun b o e => sorting_copy_old e
  obtain ⟨e1, e2⟩ := each_vals rv rd
  obtain ⟨_, e3⟩ := each_vals (h := sortingHeap (copyHeap s.heap its) (s.heap.objs.size + 1) its) rv fun p hp u r => by
    obtain ⟨as, z⟩ := rd p hp u r
    exact ⟨as, PyProof.Rows.Reads.keeps old z⟩
  refine sorted_vals (κ := dataKind (sortingHeap (copyHeap s.heap its) (s.heap.objs.size + 1) its) (L.map (·.2))) hl.isList ?_ hz' ?_
  · have hroom : ∀ d, d ∈ L.map (·.2) → X.A.in1.in1.units + d.depth < cLine := fun d m => by
      have := hdep d m
      show X.A.units + 1 + 1 + d.depth < cLine
      omega
    have e5 := each_map (R := fun v d => ∃ as, Reads (sortingHeap (copyHeap s.heap its) (s.heap.objs.size + 1) its) v d as) (fun p : V × PyData => p.2) e3
    rcases hk with ht | hn
    · by_cases hem : ∃ d, d ∈ L.map (·.2) ∧ d = .tuple []
      · exact SortsAt.tups e5 hal ht hem hroom
      · refine SortsAt.data e5 hal (.inl fun d hd => ?_) hroom
        obtain ⟨xs, rfl⟩ := ht d hd
        cases xs with
        | nil => exact absurd ⟨_, hd, rfl⟩ hem
        | cons x r => exact ⟨x, r, rfl⟩
    · exact SortsAt.data e5 hal (.inr hn) hroom
  · have e4 := sortVals_data (R := fun v (p : V × PyData) => RelV p.1 v) (enc := fun p : V × PyData => p.2) false e1 e3 hal
    obtain ⟨n, hn⟩ := sortedAll_at s.heap its (sortVals (dataKind (sortingHeap (copyHeap s.heap its) (s.heap.objs.size + 1) its) (L.map (·.2))) false its its).toArray
    refine ⟨.ref (s.heap.objs.size + 1), upd H (s.heap.objs.size + 1) (.lst ((L.mergeSort (dataLe false (·.2))).map (·.1))), I.laid (t' := s.toks) (fun b o e => sortedAll_old e) (Nat.le_succ _) ⟨?_, _, n, each_back e4, hn⟩, rfl, q _ (I.hok.fresh (Nat.le_succ _))⟩
    rw [List.length_map, List.length_mergeSort]
    rw [List.length_map] at hz
    exact hz
section
variable {W : Wd} {cc : CC} {Ns : List Str} {scp : Scope} {k : Nat} {E : XK} {X : Cx} {C : Cl} {H H1 : Hp} {m : List Addr} {st : Sto}
theorem units200 {scp : Scope} {E : XK} {X : Cx} (h : XOk W cc Ns scp k E X) : X.A.units + 200 < cLine := by have := h.room.un; omega
theorem alikeB_ok {ds : List PyData} (h : alikeB ds = true) : AllAlike ds := fun d hd d' hd' => List.all_eq_true.mp (List.all_eq_true.mp h d hd) d' hd'
theorem sortB_ok {ds : List PyData} (h : sortB ds = true) : SortOk ds := by
  unfold sortB at h
  rw [Bool.or_eq_true] at h
  rcases h with h | h
  · refine .inl fun d hd => ?_
    have := List.all_eq_true.mp h d hd
    split at this
    · exact ⟨_, rfl⟩
    · cases this
  · refine .inr fun d hd => ?_
    have := List.all_eq_true.mp h d hd
    split at this
    · cases this
    · cases this
    · rename_i h1 h2
      exact ⟨h1, h2⟩
theorem srtL_ok (s : Sim W H m st) : ∀ {xs : List D} {L : List (D × PyData)} {vs : List V}, srtL st xs = some L → Rps W.K H m xs vs → ((L.zip vs).map (·.2)) = vs ∧ ((L.zip vs).map (·.1)) = L ∧ ∀ t ∈ L.zip vs, Rp W.K H m t.1.1 t.2 ∧ Dp W.K H t.2 t.1.2
  | [], L, vs, h, r => by
    rw [srtL] at h; cases h
    rw [Rps] at r; subst r
    exact ⟨rfl, rfl, fun p hp => by cases hp⟩
  | x :: xs, L, vs, h, r => by
    rw [srtL] at h
    split at h
    · rename_i p l h1 h2
      cases h
      rw [Rps] at r
      obtain ⟨v, us, rfl, r1, r2⟩ := r
      obtain ⟨g1, g2, g3⟩ := srtL_ok s h2 r2
      rw [List.zip_cons_cons]
      refine ⟨by rw [List.map_cons, g1], by rw [List.map_cons, g2], fun q hq => ?_⟩
      rcases List.mem_cons.mp hq with rfl | hq
      · exact ⟨r1, toP_ok s 2 h1 r1⟩
      · exact g3 q hq
    · cases h
theorem rps_of {α : Type} {f : α → D} {g : α → V} : ∀ {l : List α}, (∀ t ∈ l, Rp W.K H m (f t) (g t)) → Rps W.K H m (l.map f) (l.map g)
  | [], _ => by rw [List.map_nil, List.map_nil, Rps]
  | t :: l, h => by
    rw [List.map_cons, List.map_cons, Rps]
    exact ⟨_, _, rfl, h t List.mem_cons_self, rps_of fun u hu => h u (List.mem_cons_of_mem _ hu)⟩
theorem plist_at (s : Sim W H m st) {d : D} {xs : List D} {v : V} (h : plist st d = some xs) (r : Rp W.K H m d v) : ∃ a vs, v = .ref a ∧ SqL W.K H a vs ∧ Rps W.K H m xs vs := by
  unfold plist at h
  split at h
  · rename_i n
    split at h
    · rename_i ys hy
      cases h
      obtain ⟨a, ha, vs, h1, h2⟩ := s.at hy
      rw [Rp] at r
      obtain ⟨b, hb, rfl⟩ := r
      rw [ha] at hb; cases hb
      exact ⟨a, vs, rfl, SqL.of h1, h2⟩
    · cases h
  · cases h
theorem srt_E {a : IE} {σ : L2.St} {Q : VK} (h : tE W E (ev (W.cl k) (.srt a)) σ H Q) : tCB (rSrtD W.K) (tCons (tE W E (ev (W.cl k) a)) tNil) σ H Q := by
  have h' : tE W E (fun ρ st => (ev (W.cl k) a ρ st).bind fun x st => srtD x st) σ H Q := by
    obtain ⟨m, ρ, st, s, rr, p⟩ := h; rw [ev] at p; exact ⟨m, ρ, st, s, rr, p⟩
  refine h'.one fun m st H d v s r p => ?_
  unfold srtD at p
  obtain ⟨xs, e1, p⟩ := p.ofO
  obtain ⟨L, e2, p⟩ := p.ofO
  obtain ⟨⟨c1, c2, c3⟩, p⟩ := p.ite
  obtain ⟨ad, vs, rfl, g1, g2⟩ := plist_at s e1 r
  obtain ⟨z1, z2, z3⟩ := srtL_ok s e2 g2
  have f1 : ((L.zip vs).map fun t => (t.2, t.1.2)).map (·.1) = vs := by rw [List.map_map]; exact z1
  have f2 : ((L.zip vs).map fun t => (t.2, t.1.2)).map (·.2) = L.map (·.2) := by
    rw [List.map_map]
    have := congrArg (List.map (·.2)) z2
    rw [List.map_map] at this
    exact this
  refine ⟨ad, (L.zip vs).map fun t => (t.2, t.1.2), rfl, by rw [f1]; exact g1, fun p hp => ?_, by rw [f2]; exact alikeB_ok c1, by rw [f2]; exact sortB_ok c2, fun d hd => ?_, fun q hq => ?_⟩
  · obtain ⟨t, ht, rfl⟩ := List.mem_map.mp hp
    exact (z3 t ht).2
  · rw [f2] at hd
    obtain ⟨t, ht, rfl⟩ := List.mem_map.mp hd
    exact of_decide_eq_true (List.all_eq_true.mp c3 t ht)
  · have k1 : ((L.zip vs).map fun t => (t.2, t.1.2)).mergeSort (dataLe false (·.2)) = ((L.zip vs).mergeSort (dataLe false (fun t => t.1.2))).map fun t => (t.2, t.1.2) := (List.map_mergeSort (f := fun t : (D × PyData) × V => (t.2, t.1.2)) (r := dataLe false (fun t => t.1.2)) (s := dataLe false (·.2)) fun _ _ _ _ => rfl).symm
    have k2 : L.mergeSort (dataLe false (·.2)) = ((L.zip vs).mergeSort (dataLe false (fun t => t.1.2))).map (·.1) := by
      rw [List.map_mergeSort (f := fun t : (D × PyData) × V => t.1) (r := dataLe false (fun t => t.1.2)) (s := dataLe false (·.2)) fun _ _ _ _ => rfl, z2]
    rw [k1, List.map_map]
    rw [k2, List.map_map] at p
    exact new_lst s hq (rps_of fun t ht => (z3 t (List.mem_mergeSort.mp ht)).1) p
theorem pe_srtE (hX : XOk W cc Ns scp k E X) (hW : WOk W cc) {a : IE} {x : Expr} {nm : Str} {p pos : Pos} (hn : nm = "sorted") (h1 : blB cc scp nm = true) (hs : isStar x = false) (he : PE X x (tE W E (ev (W.cl k) a))) :
    PE X (.Call (.Name nm p) [x] [] pos) (tE W E (ev (W.cl k) (.srt a))) := by
  obtain ⟨g1, g2, g3, g4⟩ := bl_of hX hW h1
  subst hn
  have c := cr_sortedD (units200 hX)
  rw [hX.K] at c
  exact PE.weak (pe_callB c g1 g2 (by decide +kernel) (pa_cons he pa_nil (star_cons hs)) g3 g4 (star_cons hs) rfl) fun σ H Q w => srt_E w
/-! ### dict(pairs) -/
abbrev PIt := Addr × NestedKey × Addr × V
def rDPairs (P : Program) (w : World) (K : PySem.W.Frag) : List V → Hp → VK → Prop := fun vs H Q => ∃ (a : Addr) (ts : List PIt), vs = [V.ref a] ∧ SqL K H a (ts.map fun t => V.ref t.1) ∧ (∀ t ∈ ts, SqT K H t.1 [.ref t.2.2.1, t.2.2.2] ∧ Dp K H (.ref t.2.2.1) (pyNk t.2.1) ∧ t.2.1.depth ≤ 8) ∧
  ∀ p us, H p = none → Vals (ts.map (·.2.2.2)) us → Q (.ref p) (upd H p (NdO P w p (storedAllH [] ((ts.zip us).map fun q => (q.1.2.1, q.1.2.2.1, q.2)))))
theorem pit_vals {X : Cx} {pins : List (Addr × Obj)} {σ : L2.St} {s : Shared} (I : Inv X pins σ H s) : ∀ {ts : List PIt}, (∀ t ∈ ts, SqT X.K H t.1 [.ref t.2.2.1, t.2.2.2] ∧ Dp X.K H (.ref t.2.2.1) (pyNk t.2.1) ∧ t.2.1.depth ≤ 8) →
    ∃ us, Vals (ts.map (·.2.2.2)) us ∧ us.length = ts.length ∧ ∀ (j : Nat) (t : PIt) (u : Value), ts[j]? = some t → us[j]? = some u → IsTup s.heap t.1 #[.ref t.2.2.1, u]
  | [], _ => ⟨[], .nil, rfl, fun j t u e => by simp at e⟩
  | t :: ts, h => by
    obtain ⟨us, g1, g2, g3⟩ := pit_vals I (ts := ts) fun u hu => h u (List.mem_cons_of_mem _ hu)
    obtain ⟨its, rv, ht, _⟩ := I.tuple (h t List.mem_cons_self).1
    obtain ⟨u, y, ei, ru, ry⟩ := vals2 rv
    subst ei
    obtain rfl : u = Value.ref t.2.2.1 := ru
    refine ⟨y :: us, .cons ry g1, by simp [g2], fun j t' u' e1 e2 => ?_⟩
    cases j with
    | zero => simp at e1 e2; subst e1 e2; exact ht
    | succ j => rw [List.getElem?_cons_succ] at e1 e2; exact g3 j t' u' e1 e2
theorem cr_dictD {X : Cx} (hu : X.A.units + 200 < cLine) (hcalm : X.calm = true) : CallR X (.type "dict") (rDPairs X.prog X.w X.K) := by
  intro pins s σ H vs us Q I r h
  obtain ⟨a, ts, rfl, hs, ht, q⟩ := h
  obtain ⟨its, rv, hl, hz⟩ := I.list hs
  obtain ⟨u, rfl, ru⟩ := vals1 r
  obtain rfl : u = Value.ref a := ru
  obtain ⟨us, g1, g2, g3⟩ := pit_vals I ht
  have ei : its = (ts.map (·.1)).map Value.ref := refs_at (ps := ts.map (·.1)) (by rw [List.map_map]; exact rv)
  have hlen : its.length = ts.length := by rw [ei]; simp
  have hzl : (ts.zip us).length = ts.length := by rw [List.length_zip, g2, Nat.min_self]
  have hz' : ts.length ≤ sizeLine := by simpa using hz
  have nk : ∀ (h' : Heap), (∀ b o, b ≠ s.heap.objs.size → b ∉ ([] : List Addr) → s.heap.get? b = some o → h'.get? b = some o) → ∀ t ∈ ts, (nestedKind X.prog X.w).is h' t.2.1 t.2.2.1 := fun h' hk t hm => by
    obtain ⟨as, rd⟩ := Dp.reads I _ _ (.ref t.2.2.1) (ht t hm).2.1 rfl
    exact ⟨nk_reads t.2.1 (PyProof.Rows.Reads.keeps (fun b o e => hk b o (Nat.ne_of_lt (Heap.lt_size e)) (by simp) e) rd), (ht t hm).2.2⟩
  refine call_dict_pairsH (knd := nestedKind X.prog X.w) (ps := (ts.zip us).map fun q => (q.1.2.1, q.1.2.2.1, q.2)) (PairArg.list a its.toArray (fun j => ((ts.map (·.1))[j]?).getD 0) ((ts.zip us).map fun q => (Value.ref q.1.2.2.1, q.2)))
    (I.ok.hd hcalm) (show X.A.units + 1 + 1 + 8 < cLine by omega) ⟨hl, ?_, fun j k v e => ?_⟩ ⟨by simp, fun i key v e => ?_⟩ (fun h' hk x hx => ?_) (by rw [List.length_map, hzl]; exact hz') fun h' tk hd' k => ?_
  · simp [hlen, hzl]
  · rw [List.getElem?_map] at e
    cases e1 : (ts.zip us)[j]? with
    | none => rw [e1] at e; cases e
    | some q =>
      rw [e1] at e; cases e
      obtain ⟨e2, e3⟩ := List.getElem?_zip_eq_some.mp e1
      refine ⟨?_, .inl ?_⟩
      rotate_left
      · have z := g3 j _ _ e2 e3
        have e4 : ((ts.map (·.1))[j]?).getD 0 = q.1.1 := by rw [List.getElem?_map, e2]; rfl
        show s.heap.IsTuple (((ts.map (·.1))[j]?).getD 0) _
        rw [e4]
        exact z
      rw [ei]
      simp [e2]
  · rw [PairRel, List.getElem?_map] at e
    cases e1 : (ts.zip us)[i]? with
    | none => rw [e1] at e; cases e
    | some q => rw [e1] at e; cases e; exact ⟨q.1.2.1, q.1.2.2.1, by rw [List.getElem?_map, e1]; rfl, rfl⟩
  · obtain ⟨q, hq, rfl⟩ := List.mem_map.mp hx
    exact nk h' hk q.1 (List.of_mem_zip (a := q.1) (b := q.2) hq).1
  · have hm : (s.heap.objs.size == sysModules) = false := beq_eq_false_iff_ne.mpr (Nat.ne_of_gt I.big)
    have hl2 := storedAllH_length ((ts.zip us).map fun q => (q.1.2.1, q.1.2.2.1, q.2)) []
    rw [List.length_map, hzl, List.length_nil, Nat.zero_add] at hl2
    obtain ⟨o, es, ep, f1, f2, f3, f4, _, f5⟩ := hd'
    exact ⟨.ref s.heap.objs.size, _, I.laid (t' := tk) (fun b o e => k b o (by simp) e) (Nat.le_refl _) (ndO_ok (P := X.prog) (w := X.w) ⟨hm, Nat.le_trans hl2 hz', o, es, ep, f1, f2, f3, f4, f5⟩), rfl, q _ us (I.hok.fresh (Nat.le_refl _)) g1⟩
/-- what stands for the pairs -/
structure PitOk (W : Wd) (H : Hp) (m : List Addr) (L : List (D × D)) (ts : List PIt) : Prop where
  len : ts.length = L.length
  at_ : ∀ (i : Nat) (t : PIt) (p : D × D), ts[i]? = some t → L[i]? = some p → SqT W.K H t.1 [.ref t.2.2.1, t.2.2.2] ∧ Dp W.K H (.ref t.2.2.1) (pyNk t.2.1) ∧ t.2.1.depth ≤ 8 ∧ nkD p.1 = some t.2.1 ∧ Rp W.K H m p.1 (.ref t.2.2.1) ∧ Rp W.K H m p.2 t.2.2.2
theorem pairs_ok : ∀ {xs : List D} {L : List (D × D)} {vs : List V}, pairsD xs = some L → Rps W.K H m xs vs → ∃ ts : List PIt, vs = (ts.map fun t => V.ref t.1) ∧ PitOk W H m L ts
  | [], L, vs, h, r => by
    rw [pairsD] at h; cases h
    rw [Rps] at r; subst r
    exact ⟨[], rfl, rfl, fun i t p e => by simp at e⟩
  | x :: xs, L, vs, h, r => by
    unfold pairsD at h
    split at h
    · rename_i e; cases e
    · rename_i k v r' e
      cases e
      split at h
      · rename_i hk
        split at h
        · rename_i l h2
          cases h
          rw [Rps] at r
          obtain ⟨v0, us, rfl, r1, r2⟩ := r
          obtain ⟨a, ws, rfl, q1, q2⟩ := r1.tup_ref
          rw [Rps] at q2
          obtain ⟨vk, w1, rfl, rk, q2⟩ := q2
          rw [Rps] at q2
          obtain ⟨vd, w2, rfl, rd, q2⟩ := q2
          rw [Rps] at q2
          subst q2
          obtain ⟨b, nk, rfl, g1, g2, g3⟩ := keyT_ok hk rk
          obtain ⟨ts, rfl, f1, f2⟩ := pairs_ok h2 r2
          refine ⟨(a, nk, b, vd) :: ts, rfl, by simp [f1], fun i t p e1 e2 => ?_⟩
          cases i with
          | zero => simp at e1 e2; subst e1 e2; exact ⟨q1, g3, g2, g1, rk, rd⟩
          | succ i => rw [List.getElem?_cons_succ] at e1 e2; exact f2 i t p e1 e2
        · cases h
      · cases h
    · cases h
theorem dent_all : ∀ {L : List (D × D)} {ts : List PIt} {us : List Value} {kvs : List (D × D)} {xs : NdX}, PitOk W H m L ts → Vals (ts.map (·.2.2.2)) us → Dent W.K H m kvs xs →
    Dent W.K H m (L.foldl (fun kvs p => dPut kvs p.1 p.2) kvs) (storedAllH xs ((ts.zip us).map fun q => (q.1.2.1, q.1.2.2.1, q.2)))
  | [], ts, us, kvs, xs, h, r, d => by
    obtain rfl : ts = [] := List.length_eq_zero_iff.mp h.len
    exact d
  | p :: L, [], us, kvs, xs, h, r, d => by cases h.len
  | p :: L, t :: ts, us, kvs, xs, h, r, d => by
    rw [List.map_cons] at r
    cases r with
    | cons r1 rr =>
      obtain ⟨g1, g2, g3, g4, g5, g6⟩ := h.at_ 0 t p rfl rfl
      exact dent_all (L := L) (ts := ts) ⟨by have := h.len; simpa using this, fun i t' p' e1 e2 => h.at_ (i + 1) t' p' (by simpa using e1) (by simpa using e2)⟩ rr (d.put g4 g3 g5 r1 g6)
theorem keyT_of {d : D} {nk : NestedKey} {b : Addr} (h : nkD d = some nk) (hd : nk.depth ≤ 8) (r : Rp W.K H m d (.ref b)) : keyT d = true := by
  cases d with
  | tup xs => unfold keyT; simp only [h]; exact decide_eq_true hd
  | loc n => simp [nkD] at h
  | fl xs => simp [nkD] at h
  | non => rw [Rp] at r; cases r
  | bl b => rw [Rp] at r; cases r
  | int b => rw [Rp] at r; cases r
  | str b => rw [Rp] at r; cases r
theorem ext_push (s : Sim W H m st) {q : Addr} (hq : H q = none) {o : HO} : Ext m (m ++ [q]) H (upd H q o) := by
  refine ⟨⟨[q], rfl⟩, fun a u h _ n => ⟨by rw [upd_ne (ne_of_none h hq)]; exact h, ?_⟩⟩
  simp only [List.mem_append, List.mem_singleton, not_or]
  exact ⟨n, ne_of_none h hq⟩
theorem PitOk.up {m' : List Addr} {L : List (D × D)} {ts : List PIt} (s : Sim W H m st) (e : Ext m m' H H1) (h : PitOk W H m L ts) : PitOk W H1 m' L ts := ⟨h.len, fun i t p e1 e2 => by
  obtain ⟨g1, g2, g3, g4, g5, g6⟩ := h.at_ i t p e1 e2
  have g5' := g5.up s e
  have hk : keyT p.1 = true := by
    exact keyT_of g4 g3 g5
  obtain ⟨b, nk, e3, e4, e5, e6⟩ := keyT_ok hk g5'
  cases e3
  rw [g4] at e4
  cases e4
  exact ⟨sqT_up s e g1, e6, g3, g4, g5', g6.up s e⟩⟩
theorem dpairs_E {a : IE} {σ : L2.St} {Q : VK} (h : tE W E (ev (W.cl k) (.dpairs a)) σ H Q) : tCB (rDPairs W.P W.w W.K) (tCons (tE W E (ev (W.cl k) a)) tNil) σ H Q := by
  have h' : tE W E (fun ρ st => (ev (W.cl k) a ρ st).bind fun x st => dpairsD x st) σ H Q := by
    obtain ⟨m, ρ, st, s, rr, p⟩ := h; rw [ev] at p; exact ⟨m, ρ, st, s, rr, p⟩
  refine h'.one fun m st H d v s r p => ?_
  unfold dpairsD at p
  obtain ⟨xs, e1, p⟩ := p.ofO
  obtain ⟨L, e2, p⟩ := p.ofO
  obtain ⟨ad, vs, rfl, g1, g2⟩ := plist_at s e1 r
  obtain ⟨ts, rfl, g3⟩ := pairs_ok e2 g2
  refine ⟨ad, ts, rfl, g1, fun t ht => ?_, fun q us hq ru => ?_⟩
  · obtain ⟨i, hi⟩ := List.getElem?_of_mem ht
    have hl : i < L.length := by rw [← g3.len]; exact (List.getElem?_eq_some_iff.mp hi).1
    obtain ⟨f1, f2, f3, _⟩ := g3.at_ i t _ hi (List.getElem?_eq_getElem hl)
    exact ⟨f1, f2, f3⟩
  · have e0 : Ext m (m ++ [q]) H (upd H q (NdO W.P W.w q (storedAllH [] ((ts.zip us).map fun q => (q.1.2.1, q.1.2.2.1, q.2))))) := ext_push s hq
    obtain ⟨s2, e3⟩ := s.push hq (o := NdO W.P W.w q (storedAllH [] ((ts.zip us).map fun q => (q.1.2.1, q.1.2.2.1, q.2)))) (c := .dct (L.foldl (fun kvs p => dPut kvs p.1 p.2) [])) ⟨_, upd_same, dent_all (kvs := []) (xs := []) (PitOk.up s e0 g3) ru rfl⟩
    refine p.go e3 s2 _ ?_
    rw [Rp]
    exact ⟨q, by rw [← s.len]; simp, rfl⟩
theorem pe_dpairsE (hX : XOk W cc Ns scp k E X) (hW : WOk W cc) {a : IE} {x : Expr} {nm : Str} {p pos : Pos} (hn : nm = "dict") (h1 : blB cc scp nm = true) (hs : isStar x = false) (he : PE X x (tE W E (ev (W.cl k) a))) :
    PE X (.Call (.Name nm p) [x] [] pos) (tE W E (ev (W.cl k) (.dpairs a))) := by
  obtain ⟨g1, g2, g3, g4⟩ := bl_of hX hW h1
  subst hn
  have c := cr_dictD (units200 hX) hX.calm
  rw [hX.K, hX.prog, hX.w] at c
  exact PE.weak (pe_callTy c g1 g2 (by decide +kernel) (pa_cons he pa_nil (star_cons hs)) g3 g4 (star_cons hs) rfl) fun σ H Q w => dpairs_E w
end
end Z
/-! sorted(xs, key=lambda p: 0 - len(p[0])) -/
namespace Z
open PySem L2 PySem.Spec PyProof.Rows PySem.W
section
variable {prog : Program} {w : World} {A : Around} {E : Value → Shared → Prop} {s : Shared} {env : PySem.Env} {x : PySem.Str} {mg mb m : PySem.Str → Option Value}
/-- 0 - len(x[0]) -/
theorem key_body {t p0 : Addr} {ts its : Array Value} {j0 j1 : Tok} {c0 c1 lp xp sp cp bp : Pos} {Q : Value → Shared → Prop} (hk : env.scope.kind = .function) (hx : env.kindOf x = some .local) (hn : s.heap.Ns env.locals m) (hv : m x = some (.ref t))
    (hl : env.kindOf "len" = some .globalImplicit) (hg : s.heap.Ns env.globals mg) (hm : mg "len" = none) (hb : s.heap.Ns env.builtins mb) (hmb : mb "len" = some (.builtin "len")) (hd : (x == ("__debug__" : PySem.Str)) = false)
    (ht : IsTup s.heap t ts) (h0 : ts[0]? = some (.ref p0)) (hz : ts.size ≤ sizeLine) (hp : IsTup s.heap p0 its) (hz2 : its.size ≤ sizeLine) (q : ∀ (u : Tok) tk, Q (.int (0 - (its.size : Int)) u) { s with toks := tk }) :
    wpAny (model prog w) A (eval (.BinOp (.Constant (.int 0) j0 c0) .Sub (.Call (.Name "len" lp) [.Subscript (.Name x xp) (.Constant (.int 0) j1 c1) sp] [] cp) bp) env) Q E s := by
  have hn63 := line63
  refine wpAny_BinOp (wpAny_Constant_int ?_)
  refine wpAny_Call_Name_kw (Calls.Name_function_global hk hl (Calls.loadGlobal_builtin hg hm hb hmb ?_) (by decide))
  refine PyProof.Rows.callWith_builtin1 ?_ (by rfl) (by rfl)
  refine Calls.spliced_cons (Subscript_ (wpAny_Name (wpAny_loadName_local hk hx hn hv ?_) hd))
  refine wpAny_Constant_int ?_
  refine subscriptTail_builtinR (x := .ref p0) ht.typeIs slot_tuple_getitem.lookup (getItem_tuple (j := 0) ht (by omega) (by omega) ?_ h0 ⟨rfl, ?_⟩) (by rfl)
  · have h1 : 0 < ts.size := (Array.getElem?_eq_some_iff.mp h0).1
    unfold seqIndex?
    simp [h1]
  · refine Calls.spliced_nil ?_
    refine len_tuple hp (by omega) ?_
    exact sub_int (q _ _)
/-- the key of an item -/
theorem key_call {t p0 f c' : Addr} {ts its : Array Value} {name qual : PySem.Str} {params : Arguments} {body : Expr} {scope : Scope} {clo : List (PySem.Str × Addr)} {pm ctv : Value} (hkl : keyLam params body scope = true)
    (hf : s.heap.get? f = some (kla_obj name qual params body scope clo pm c' ctv)) (hc : s.heap.CodeRec (.ref c') qual) (hdp : A.depth < recursionLimit) (hlim : s.heap.NoLimit)
    (hg : s.heap.Ns mainGlobals mg) (hm : mg "len" = none) (hb : s.heap.Ns builtinsNs mb) (hmb : mb "len" = some (.builtin "len"))
    (ht : IsTup s.heap t ts) (h0 : ts[0]? = some (.ref p0)) (hz : ts.size ≤ sizeLine) (hp : IsTup s.heap p0 its) (hz2 : its.size ≤ sizeLine) :
    wpAny (model prog w) A (call (.ref f) [.ref t]) (KeyPure (.int (0 - (its.size : Int))) s) (fun _ _ => False) s := by
  unfold keyLam at hkl
  split at hkl
  · rename_i p j0 c0 ln lp q xp j1 c1 sp cp bp
    simp only [Bool.and_eq_true, Bool.not_eq_true', decide_eq_true_eq, decide_eq_false_iff_not, List.all_eq_true] at hkl
    obtain ⟨⟨⟨⟨⟨⟨⟨⟨⟨⟨e1, e0⟩, e2⟩, e3⟩, e4⟩, e5⟩, e6⟩, e7⟩, e8⟩, e9⟩, e10⟩ := hkl
    subst e2 e0
    obtain ⟨pa, pb, pc⟩ := p
    have e1 : (("_law_pair" : PySem.Str)) = pa := e1
    subst e1
    refine wpAny_call (PySem.W.kla_callFunE (fd := kla_fn name qual _ _ scope clo pm (.ref c') ctv) hdp hf rfl e7 e8 rfl hc ?_)
    have eb : bindArgs (kla_fn name qual ⟨[], [⟨"_law_pair", pb, pc⟩], none, [], [], none, []⟩ (.BinOp (.Constant (.int 0) j0 c0) .Sub (.Call (.Name "len" lp) [.Subscript (.Name "_law_pair" xp) (.Constant (.int 0) j1 c1) sp] [] cp) bp) scope clo pm (.ref c') ctv) ⟨[.ref t], []⟩ = pure [(("_law_pair" : PySem.Str), Value.ref t)] := by rfl
    rw [eb]
    refine wpAny_pure (wpAny_newFunctionEnv (fun y hy => (e5 y hy).1) (fun y hy => ?_) (fun h₁ hns hsb => ⟨hlim.fresh _ hsb, ?_⟩) e6)
    · have : y = (("_law_pair" : PySem.Str), Value.ref t) := by simpa using hy
      rw [this]; exact e3
    · have kp : ∀ b o, s.heap.get? b = some o → h₁.get? b = some o := fun b o e => hsb.extBut b o (Nat.ne_of_lt (Heap.lt_size e)) (Heap.get?_push_of_some _ e)
      refine PySem.W.kla_codeExpr (key_body (m := fun y => ([(("_law_pair" : PySem.Str), Value.ref t)] : List (PySem.Str × Value)).reverse.lookup y) (mg := mg) (mb := mb) e6 e3 hns ?_ e4 (hg.keeps kp) hm (hb.keeps kp) hmb e9 (ht.keeps kp) h0 hz (hp.keeps kp) hz2 fun u tk => ?_)
      · simp
      · exact ⟨h₁, tk, rfl, kp, .int _ _⟩
  · cases hkl
end
section
variable {W : Wd} {cc : CC} {Ns : List Str} {scp : Scope} {k : Nat} {E : XK} {X : Cx} {C : Cl} {H H1 : Hp} {m : List Addr} {st : Sto}
theorem zip_rps : ∀ {xs : List D} {vs : List V}, Rps W.K H m xs vs → (vs.zip xs).map (·.1) = vs ∧ (vs.zip xs).map (·.2) = xs ∧ ∀ t ∈ vs.zip xs, Rp W.K H m t.2 t.1
  | [], vs, r => by rw [Rps] at r; subst r; exact ⟨rfl, rfl, fun t h => by cases h⟩
  | x :: xs, vs, r => by
    rw [Rps] at r
    obtain ⟨v, us, rfl, r1, r2⟩ := r
    obtain ⟨g1, g2, g3⟩ := zip_rps r2
    rw [List.zip_cons_cons]
    refine ⟨by rw [List.map_cons, g1], by rw [List.map_cons, g2], fun q hq => ?_⟩
    rcases List.mem_cons.mp hq with rfl | hq
    · exact r1
    · exact g3 q hq
theorem each_rel {bs : List (V × D)} : ∀ {us : List Value}, Vals (bs.map (·.1)) us → EachIs (fun v p => RelV p.1 v) us bs := by
  induction bs with
  | nil => intro us r; cases r; exact .nil
  | cons p L ih =>
    intro us r
    rw [List.map_cons] at r
    cases r with
    | cons r1 rr => exact .cons r1 (ih rr)
theorem rel_each : ∀ {us : List Value} {L : List (V × D)}, EachIs (fun v p => RelV p.1 v) us L → Vals (L.map (·.1)) us
  | _, _, .nil => .nil
  | _, _, .cons h t => .cons h (rel_each t)
theorem defaults_key {params : Arguments} {body : Expr} {scope : Scope} {env : PySem.Env} (h : keyLam params body scope = true) : defaultsOf params env = ([], []) ∧ ∀ y ∈ scope.names, y.2 = .free → ∃ c, env.cells.lookup y.1 = some c := by
  unfold keyLam at h
  split at h
  · simp only [Bool.and_eq_true, Bool.not_eq_true', decide_eq_true_eq, decide_eq_false_iff_not, List.all_eq_true] at h
    obtain ⟨⟨⟨⟨⟨⟨⟨⟨⟨⟨e1, e0⟩, e2⟩, e3⟩, e4⟩, e5⟩, e6⟩, e7⟩, e8⟩, e9⟩, e10⟩ := h
    exact ⟨rfl, fun y hy e => absurd e (e5 y hy).2⟩
  · cases h
theorem lenK_ok {d : D} {v : V} {n : Nat} (h : lenK d = some n) (r : Rp W.K H m d v) : ∃ t p0 zs ws, v = .ref t ∧ SqT W.K H t (.ref p0 :: ws) ∧ SqT W.K H p0 zs ∧ zs.length = n := by
  unfold lenK at h
  split at h
  · rename_i p r'
    cases h
    obtain ⟨t, vs, rfl, h1, h2⟩ := r.tup_ref
    rw [Rps] at h2
    obtain ⟨v0, ws, rfl, r0, _⟩ := h2
    obtain ⟨p0, zs, rfl, h3, h4⟩ := r0.tup_ref
    exact ⟨t, p0, zs, ws, rfl, h1, h3, h4.len⟩
  · cases h
theorem pe_srtkE (hX : XOk W cc Ns scp k E X) (hW : WOk W cc) {a : IE} {x : Expr} {nm kw : Str} {params : Arguments} {body : Expr} {scope : Scope} {p pos lpos kp : Pos} (hn : nm = "sorted") (h1 : blB cc scp nm = true) (hs : isStar x = false) (hkw : kw = "key")
    (hl : cc.lam.isSome = true) (hkl : keyLam params body scope = true) (h2 : blB cc scp "len" = true) (he : PE X x (tE W E (ev (W.cl k) a))) :
    PE X (.Call (.Name nm p) [x] [⟨some kw, .Lambda params body scope lpos, kp⟩] pos) (tE W E (ev (W.cl k) (.srtk a))) := by
  obtain ⟨g1, g2, g3, g4⟩ := bl_of hX hW h1
  obtain ⟨_, k2, _, _⟩ := bl_of hX hW h2
  obtain ⟨⟨c, q⟩, hcq⟩ := Option.isSome_iff_exists.mp hl
  obtain ⟨hr, l1, l2, P, TB, l3, l4⟩ := hX.lm c q hcq
  subst hn hkw
  refine ⟨fun pins s σ H Q I h => ?_⟩
  obtain ⟨m, ρ, st, s0, r0, p0⟩ := h
  rw [ev] at p0
  refine wpAny_Call_Name_kw (ld_blt (u := .builtin "sorted") I g1 g2 (by decide +kernel) ?_ g3 g4)
  refine PyProof.Rows.callWith_kw (thn ((pa_cons he pa_nil (star_cons hs)).run pos pins s σ H (fun vs H1 => ∃ v d m1 st1, vs = [v] ∧ Sim W H1 m1 st1 ∧ Rp W.K H1 m1 d v ∧ Pg W E m1 H1 (srtkD d st1) (kD W Q)) I
    ⟨m, ρ, st, s0, r0, p0.bind.imp fun d m1 st1 H1 e1 s1 p1 v rv => ⟨v, d, m1, st1, rfl, s1, rv, p1⟩⟩) fun us s1 ⟨vs, H1, I1, r1, q1⟩ => ?_) ?_ ?_ (by rfl) (by rfl)
  · obtain ⟨v, d, m1, st1, rfl, S1, rv, pp⟩ := q1
    obtain ⟨u, rfl, ru⟩ := vals1 r1
    obtain ⟨d1, d2⟩ := defaults_key (env := X.env) hkl
    refine wpAny_evalAll_cons (wpAny_bind (LamX.lam_make2 (T := W.T) I1 TB l1 (by rw [l2]; exact l3) (by rw [l2]; exact l4) S1.tb.tabs d1 d2 fun f c' pm ctv H2 s2 I2 eN T2 hf hfn hfr hco => wpAny_bind (wpAny_standAt (wpAny_pure (wpAny_evalAll_nil ?_)))))
    obtain ⟨S2, e2⟩ := S1.tabs eN T2
    replace pp := Pg.up e2 pp
    replace rv := rv.up S1 e2
    unfold srtkD at pp
    obtain ⟨xs, f1, pp⟩ := pp.ofO
    obtain ⟨f2, pp⟩ := pp.ite
    obtain ⟨ad, ys, rfl, f3, f4⟩ := plist_at S2 f1 rv
    obtain rfl : u = Value.ref ad := ru
    obtain ⟨z1, z2, z3⟩ := zip_rps f4
    have f3' : SqL X.K H2 ad ys := by rw [hX.K]; exact f3
    obtain ⟨its, rvs, hl', hz⟩ := I2.list f3'
    have hlen : (ys.zip xs).length = ys.length := by rw [← List.length_map (f := (·.1)), z1]
    have eR : EachIs (fun v (p : V × D) => RelV p.1 v) its (ys.zip xs) := each_rel (by rw [z1]; exact rvs)
    obtain ⟨mb, b1, b2⟩ := I2.mod.blt
    obtain ⟨⟨oc, cvs, ct, hoc, hdc, hvc⟩, _, _⟩ := I2.hok c' _ hco
    have hroom := hX.room
    show wpAny _ _ (call (.builtin "sorted") [.ref ad] [(Str.ofString "key", .ref f)]) _ _ _
    refine PySem.W.sorted_key_data (b := false) (bs := ys.zip xs) (R := fun v (p : V × D) => RelV p.1 v) (fun p : V × D => PyData.int (0 - (((lenK p.2).getD 0 : Nat) : Int))) hl'.isList eR (AllAlike.of fun _ _ => by simp [PySem.W.alike]) (.inr fun d hd => ?_) (by rw [hlen]; exact hz) (fun p _ => ?_) (ksk_s1 _ _) (fun _ => ksk_l1 _ _) (fun _ => ksk_t1 _ _)
      (fun v p hR hp h tk kp => ?_) fun out cc' h' tk kp _ hD hol eo => ?_
    · obtain ⟨t, _, rfl⟩ := List.mem_map.mp hd
      exact ⟨by simp, by simp⟩
    · have := hroom.un
      have e0 : (PyData.int (0 - (((lenK p.2).getD 0 : Nat) : Int))).depth = 0 := by simp [PyData.depth]
      omega
    · have hx : (lenK p.2).isSome = true := List.all_eq_true.mp f2 p.2 (List.of_mem_zip (a := p.1) (b := p.2) hp).2
      obtain ⟨n, hn⟩ := Option.isSome_iff_exists.mp hx
      obtain ⟨t, pp0, zs, ws, e1, e3, e4, e5⟩ := lenK_ok hn (z3 p hp)
      have hR : RelV p.1 v := hR
      rw [e1] at hR
      obtain rfl : v = Value.ref t := hR
      rw [← hX.K] at e3 e4
      obtain ⟨ts, rt, it, lt⟩ := I2.tuple e3
      obtain ⟨qs, rq, iq, lq⟩ := I2.tuple e4
      have hql : qs.toArray.size = n := by rw [List.size_toArray, ← rq.length]; exact e5
      cases rt with
      | cons t1 t2 =>
        rename_i u0 us'
        obtain rfl : u0 = Value.ref pp0 := t1
        rw [hn, Option.getD_some, ← hql]
        refine key_call (mg := X.mg) (mb := mb) hkl (kp _ _ hf) ⟨c', oc, cvs, ct, rfl, kp _ _ hoc, hdc, hvc⟩ hroom.depth (I2.nolimit.keeps kp) ((I2.mod.glob.keeps I2.bk).keeps kp) k2 ((b1.keeps I2.bk).keeps kp) ((b2 "len" (by decide)).trans (by decide +kernel)) (it.keeps kp) (by simp) ?_ (iq.keeps kp) ?_
        · have := t2.length
          simp only [List.size_toArray, List.length_cons] at lt ⊢
          omega
        · rw [List.size_toArray, ← rq.length]; exact lq
    · have e6 := rel_each eo
      refine ⟨.ref (s2.heap.objs.size + 1), upd H2 (s2.heap.objs.size + 1) (.lst (((ys.zip xs).mergeSort (dataLe false fun p => PyData.int (0 - (((lenK p.2).getD 0 : Nat) : Int)))).map (·.1))), I2.laid (t' := tk) kp (Nat.le_succ _) ⟨?_, out, cc', e6, hD⟩, rfl, ?_⟩
      · rw [List.length_map, List.length_mergeSort, hlen]; exact hz
      · have e7 : xs.mergeSort (fun a b => decide ((lenK b).getD 0 ≤ (lenK a).getD 0)) = ((ys.zip xs).mergeSort (dataLe false fun p => PyData.int (0 - (((lenK p.2).getD 0 : Nat) : Int)))).map (·.2) := by
          rw [dataLe_int (fun p : V × D => (0 - (((lenK p.2).getD 0 : Nat) : Int))), List.map_mergeSort (f := fun t : V × D => t.2) (s := fun a b => decide ((lenK b).getD 0 ≤ (lenK a).getD 0)) fun a _ b _ => by rw [decide_eq_decide]; omega, z2]
        rw [e7] at pp
        exact new_lst S2 (I2.hok.fresh (Nat.le_succ _)) (rps_of fun t ht => z3 t (List.mem_mergeSort.mp ht)) pp
  · show backTo pos (starEach [x] X.env) = _
    rw [star_cons hs]; rfl
  · rw [star_cons hs]; rfl
end
end Z
namespace Z
open PySem L2
section
variable {W : Wd} {cc : CC} {Ns : List Str} {k : Nat}
theorem bex {a b : Bool} (h : (a && b) = true) : a = true ∧ b = true := by rw [Bool.and_eq_true] at h; exact h
theorem bnot {a : Bool} (h : (!a) = true) : a = false := by simpa using h
theorem chkEs_stars : ∀ {es : IEs} {scp : Scope} {xs : List Expr}, chkEs cc Ns scp es xs = true → noStars xs = true
  | .nil, scp, [], h => rfl
  | .nil, scp, _ :: _, h => by unfold chkEs at h; cases h
  | .cons a r, scp, [], h => by unfold chkEs at h; cases h
  | .cons a r, scp, x :: xs, h => by
    unfold chkEs at h
    obtain ⟨h1, h2⟩ := bex h
    obtain ⟨h3, h4⟩ := bex h1
    rw [noStars, h3, chkEs_stars h2]; rfl
theorem chkEs_nil {es : IEs} {scp : Scope} {xs : List Expr} (h : chkEs cc Ns scp es xs = true) : xs = [] → es = .nil := fun e => by
  subst e
  cases es with
  | nil => rfl
  | cons a r => unfold chkEs at h; cases h
theorem XOk.blk {scp scope : Scope} {E : XK} {X : Cx} (h : XOk W cc Ns scp k E X) (s : Shared) (H : Hp) (C : Addr) (cl : List (Str × Addr)) (fp : List Addr) : XOk W cc Ns (relS scope scp) k E0 (X.blk s H scope (compEnvC scope cl C X.env) fp) :=
  ⟨h.prog, h.w, h.K, h.mg, h.base, h.N, h.nd, by rw [← h.sc]; rfl, h.calm, h.room, passL, h.lm⟩
theorem XOk.tblk {scp scope : Scope} {E : XK} {X : Cx} (h : XOk W cc Ns scp k E X) (s : Shared) (H : Hp) (C : Addr) (cl : List (Str × Addr)) (fp : List Addr) : TOk Ns (relS scope scp) (fun x => scope.names.lookup x == some .cell) (X.blk s H scope (compEnvC scope cl C X.env) fp) :=
  ⟨h.N, h.nd, by rw [← h.sc]; rfl, rfl, h.calm⟩
def isBool : Expr → Bool
  | .BoolOp .. => true
  | _ => false
structure Tri (X : Cx) (e : Expr) (t : TE) (tt : TT) : Prop where
  pe : PE X e t
  pt : PT X e tt
  pw : isBool e = true → PW X e tt
theorem PT.of {X : Cx} {e : Expr} {E : XK} {f : Env → Sto → R D} (h : PE X e (tE W E f)) (he : plainT e = true) : PT X e (tT W E fun ρ st => (f ρ st).bind fun x st => bOf st x) :=
  PT.weak (pt_val h (isTrue_of he)) fun σ H Q w => tE_bl w
theorem Tri.plain {X : Cx} {e : Expr} {E : XK} {f : Env → Sto → R D} (h : PE X e (tE W E f)) (he : plainT e = true) : Tri X e (tE W E f) (tT W E fun ρ st => (f ρ st).bind fun x st => bOf st x) :=
  ⟨h, PT.of h he, fun z => by cases e <;> first | (cases he; done) | (cases z; done)⟩
theorem pt_ifExp {X : Cx} {c a b : Expr} {tc ta tb : TT} {pos : Pos} (hc : PT X c tc) (ha : PT X a ta) (hb : PT X b tb) : PT X (.IfExp c a b pos) (fun σ H Q => tc σ H fun k H1 => if k = true then ta σ H1 Q else tb σ H1 Q) := by
  refine ⟨fun pins s σ H Q I h => ?_⟩
  show wpAny _ _ (do if ← isTrue c X.env (eval c X.env) then isTrue a X.env (eval a X.env) else isTrue b X.env (eval b X.env)) _ _ s
  refine PySem.wpAny_bind (thn (hc.run pins s σ H _ I h) fun k s1 ⟨H1, I1, q⟩ => ?_)
  cases k with
  | true => exact ha.run pins s1 σ H1 Q I1 q
  | false => exact hb.run pins s1 σ H1 Q I1 q
theorem two_E {E : XK} {f g h' : Env → Sto → R D} {hh : D → D → Sto → R D} (e : ∀ ρ st, h' ρ st = (f ρ st).bind fun x st => (g ρ st).bind fun y st => hh x y st) {σ : L2.St} {H : Hp} {Q : VK} (w : tE W E h' σ H Q) : tE W E (fun ρ st => (f ρ st).bind fun x st => (g ρ st).bind fun y st => hh x y st) σ H Q := by
  obtain ⟨m, ρ, st, s, r, p⟩ := w
  rw [e] at p
  exact ⟨m, ρ, st, s, r, p⟩
theorem one_E {E : XK} {f h' : Env → Sto → R D} {hh : D → Sto → R D} (e : ∀ ρ st, h' ρ st = (f ρ st).bind hh) {σ : L2.St} {H : Hp} {Q : VK} (w : tE W E h' σ H Q) : tE W E (fun ρ st => (f ρ st).bind hh) σ H Q := by
  obtain ⟨m, ρ, st, s, r, p⟩ := w
  rw [e] at p
  exact ⟨m, ρ, st, s, r, p⟩
theorem units100 {scp : Scope} {E : XK} {X : Cx} (h : XOk W cc Ns scp k E X) : X.A.units + 100 < cLine := by have := h.room.un; omega
/-- a new thing at p -/
theorem new_cell {E : XK} {m : List Addr} {H : Hp} {st : Sto} {Q : VK} (s : Sim W H m st) {p : Addr} (hp : H p = none) {o : HO} {c : Cell} (hc : CellOk W (upd H p o) (m ++ [p]) p c) (h : Pg W E m H (.ok (.loc st.length) (st ++ [c])) (kD W Q)) : Q (.ref p) (upd H p o) := by
  obtain ⟨s', e⟩ := s.push hp hc
  refine h.go e s' (.ref p) ?_
  rw [Rp]
  refine ⟨p, ?_, rfl⟩
  rw [List.getElem?_append_right (by rw [s.len]; exact Nat.le_refl _), s.len]
  simp
theorem cch_E {E : XK} {C : Cl} {o o' : COp} {a b c : IE} {σ : L2.St} {H : Hp} {Q : VK} (h : tE W E (ev C (.cch o o' a b c)) σ H Q) : tChain (rCmp W o) (rCmp W o') (tE W E (ev C a)) (tE W E (ev C b)) (tE W E (ev C c)) σ H Q := by
  obtain ⟨m, ρ, st, s, r, p⟩ := h
  rw [ev] at p
  refine ⟨m, ρ, st, s, r, p.bind.imp fun x m1 st1 H1 e1 s1 p1 v rv => ?_⟩
  refine ⟨m1, ρ, st1, s1, r.up s e1, p1.bind.imp fun y m2 st2 H2 e2 s2 p2 u ru => ?_⟩
  have r2 := (r.up s e1).up s1 e2
  refine cmp_ok (E := E) s2 (rv.up s1 e2) ru (p2.bind.imp fun z m3 st3 H3 e3 s3 p3 w rw' => ?_)
  cases z with
  | bl k =>
    rw [Rp] at rw'
    subst rw'
    have p3 : Pg W E m3 H3 (if k = true then (ev C c ρ st3).bind fun w st => cmpD o' y w st else .ok (.bl false) st3) (kD W Q) := p3
    refine ⟨k, rfl, ?_⟩
    cases k with
    | true =>
      rw [if_pos rfl] at p3 ⊢
      exact ⟨m3, ρ, st3, s3, r2.up s2 e3, p3.bind.imp fun w m4 st4 H4 e4 s4 p4 t rt => cmp_ok s4 ((ru.up s2 e3).up s3 e4) rt p4⟩
    | false =>
      rw [if_neg Bool.false_ne_true] at p3 ⊢
      exact p3.now s3 _ (by rw [Rp])
  | _ => exact p3.elim
theorem rg_rel {K : PySem.W.Frag} {H : Hp} {m : List Addr} (a b : Int) : Rps K H m (rngW a (b - a).toNat).xs (rgV a b) := by
  unfold rngW rgV
  simp only
  generalize (List.range (b - a).toNat) = l
  induction l with
  | nil => rw [List.map_nil, List.map_nil, Rps]
  | cons x l ih => rw [List.map_cons, List.map_cons, Rps]; exact ⟨_, _, rfl, by rw [Rp], ih⟩
theorem units64 {scp : Scope} {E : XK} {X : Cx} (h : XOk W cc Ns scp k E X) : X.A.units + 64 < cLine := h.room.units
mutual
/-- THE RULE for expressions -/
theorem snd (L : Lv W k) : ∀ (a : IE) {cc : CC} (hW : WOk W cc) {scp : Scope} {E : XK} {X : Cx} {e : Expr}, chkE cc Ns scp a e = true → XOk W cc Ns scp k E X → Tri X e (tE W E (ev (W.cl k) a)) (tT W E (evT (W.cl k) a))
  | .var i, cc, hW, scp, E, X, e, h, hX => by
    unfold chkE at h
    split at h
    · obtain ⟨h1, h4⟩ := bex h
      obtain ⟨h1, h3⟩ := bex h1
      obtain ⟨h1, h2⟩ := bex h1
      refine .plain (PE.weak (pe_var (by rw [hX.N]; exact of_decide_eq_true h1) (vis_of h2 hX.sc) (of_decide_eq_true h3) (of_decide_eq_true h4)) fun σ H Q w => tE_var w) rfl
    · cases h
  | .cst d, cc, hW, scp, E, X, e, h, hX => by
    unfold chkE at h
    have cst : ∀ {v : V} {t : TE}, PE X e t → (∀ σ H Q, Q v H → t σ H Q) → (∀ H m, Rp W.K H m d v) → PE X e (tE W E (ev (W.cl k) (.cst d))) := fun {v t} p q r =>
      PE.weak p fun σ H Q w => q σ H Q (tE_cst (d := d) (by obtain ⟨m, ρ, st, s, rr, w⟩ := w; rw [ev] at w; exact ⟨m, ρ, st, s, rr, w⟩) (r H))
    split at h
    · unfold cstOk at h
      split at h
      · refine .plain (cst pe_non (fun _ _ _ q => q) fun _ _ => by rw [Rp]) rfl
      · have := eq_of_beq h; subst this
        refine .plain (cst pe_bl (fun _ _ _ q => q) fun _ _ => by rw [Rp]) rfl
      · have := of_decide_eq_true h; subst this
        refine .plain (cst pe_int (fun _ _ _ q => q) fun _ _ => by rw [Rp]) rfl
      · have := of_decide_eq_true h; subst this
        refine .plain (cst pe_str (fun _ _ _ q => q) fun _ _ => by rw [Rp]) rfl
      · cases h
    · have := of_decide_eq_true h; subst this
      refine .plain (cst (pe_un un_neg pe_int) (fun _ _ _ q => ⟨_, rfl, q⟩) fun _ _ => by rw [Rp]) rfl
    · cases h
  | .gl d, cc, hW, scp, E, X, e, h, hX => by
    unfold chkE at h
    split at h
    · obtain ⟨h1, h2⟩ := bex h
      obtain ⟨g1, g2⟩ := gl_of h1 hX.sc
      obtain ⟨u, v, k1, k2, k3⟩ := hW.gl _ d (of_decide_eq_true h2)
      refine .plain (PE.weak (pe_glob g1 (by rw [hX.mg]; exact k1) k2 g2) fun σ H Q w => tE_cst (d := d) (v := v) (by obtain ⟨m, ρ, st, s, rr, w⟩ := w; rw [ev] at w; exact ⟨m, ρ, st, s, rr, w⟩) (k3 H)) rfl
    · cases h
  | .tup es, cc, hW, scp, E, X, e, h, hX => by
    unfold chkE at h
    split at h
    · refine .plain (PE.weak (pe_tup (sndEs L es hW h hX)) fun σ H Q w => tup_E w) rfl
    · cases h
  | .lst es, cc, hW, scp, E, X, e, h, hX => by
    unfold chkE at h
    split at h
    · refine .plain (PE.weak (pe_lst (sndEs L es hW h hX)) fun σ H Q w => lst_E w) rfl
    · cases h
  | .bin o a b, cc, hW, scp, E, X, e, h, hX => by
    unfold chkE at h
    split at h
    · obtain ⟨h1, h3⟩ := bex h
      obtain ⟨h1, h2⟩ := bex h1
      refine .plain (PE.weak (pe_op (op_rBin h1 hX.K) (snd L a hW h2 hX).pe (snd L b hW h3 hX).pe) fun σ H Q w => (two_E (fun ρ st => by rw [ev]) w).two fun m st H d v e u s r1 r2 p => bin_ok s r1 r2 p) rfl
    · cases h
  | .cmp o a b, cc, hW, scp, E, X, e, h, hX => by
    unfold chkE at h
    split at h
    · obtain ⟨h1, h4⟩ := bex h
      obtain ⟨h1, h3⟩ := bex h1
      obtain ⟨h1, h2⟩ := bex h1
      have two : ∀ σ H Q, tE W E (ev (W.cl k) (.cmp o a b)) σ H Q → tOp (rCmp W o) (tE W E (ev (W.cl k) a)) (tE W E (ev (W.cl k) b)) σ H Q := fun σ H Q w => (two_E (fun ρ st => by rw [ev]) w).two fun m st H d v e u s r1 r2 p => cmp_ok s r1 r2 p
      exact ⟨PE.weak (pe_cmpR (op_rCmp h1 hX.prog hX.w hX.K (units100 hX)) (snd L a hW h3 hX).pe (snd L b hW h4 hX).pe (bnot h2)) two, PT.weak (pt_cmpR (op_rCmp h1 hX.prog hX.w hX.K (units100 hX)) (snd L a hW h3 hX).pe (snd L b hW h4 hX).pe (bnot h2)) fun σ H Q w => two σ H _ (tE_bl w), fun z => by cases z⟩
    · cases h
  | .and a b, cc, hW, scp, E, X, e, h, hX => by
    unfold chkE at h
    split at h
    · obtain ⟨h1, h2⟩ := bex h
      have q := PW.weak (pw_and (pos := ‹Pos›) (snd L a hW h1 hX).pt (pw_and1 (snd L b hW h2 hX).pt)) fun σ H Q w => and_T (C := W.cl k) (a := a) (b := b) w
      exact ⟨PE.weak (pe_and (snd L a hW h1 hX).pe (pe_one (snd L b hW h2 hX).pe)) fun σ H Q w => and_V w, q.pt, fun _ => q⟩
    · obtain ⟨h1, h2⟩ := bex h
      have q := PW.weak (pw_and (pos := ‹Pos›) (snd L a hW h1 hX).pt ((snd L b hW h2 hX).pw rfl)) fun σ H Q w => and_T (C := W.cl k) (a := a) (b := b) w
      exact ⟨PE.weak (pe_and (snd L a hW h1 hX).pe (snd L b hW h2 hX).pe) fun σ H Q w => and_V w, q.pt, fun _ => q⟩
    · cases h
  | .or a b, cc, hW, scp, E, X, e, h, hX => by
    unfold chkE at h
    split at h
    · obtain ⟨h1, h2⟩ := bex h
      have q := PW.weak (pw_or (pos := ‹Pos›) (snd L a hW h1 hX).pt (pw_or1 (snd L b hW h2 hX).pt)) fun σ H Q w => or_T (C := W.cl k) (a := a) (b := b) w
      exact ⟨PE.weak (pe_or (snd L a hW h1 hX).pe (pe_one (snd L b hW h2 hX).pe)) fun σ H Q w => or_V w, q.pt, fun _ => q⟩
    · obtain ⟨h1, h2⟩ := bex h
      have q := PW.weak (pw_or (pos := ‹Pos›) (snd L a hW h1 hX).pt ((snd L b hW h2 hX).pw rfl)) fun σ H Q w => or_T (C := W.cl k) (a := a) (b := b) w
      exact ⟨PE.weak (pe_or (snd L a hW h1 hX).pe (snd L b hW h2 hX).pe) fun σ H Q w => or_V w, q.pt, fun _ => q⟩
    · cases h
  | .not a, cc, hW, scp, E, X, e, h, hX => by
    unfold chkE at h
    split at h
    · exact ⟨PE.weak (pe_not (snd L a hW h hX).pe) fun σ H Q w => not_V w, PT.weak (pt_not (snd L a hW h hX).pt) fun σ H Q w => not_T w, fun z => by cases z⟩
    · cases h
  | .ite c a b, cc, hW, scp, E, X, e, h, hX => by
    unfold chkE at h
    split at h
    · obtain ⟨h1, h3⟩ := bex h
      obtain ⟨h1, h2⟩ := bex h1
      exact ⟨PE.weak (pe_ifExp (snd L c hW h1 hX).pt (snd L a hW h2 hX).pe (snd L b hW h3 hX).pe) fun σ H Q w => ite_V w, PT.weak (pt_ifExp (snd L c hW h1 hX).pt (snd L a hW h2 hX).pt (snd L b hW h3 hX).pt) fun σ H Q w => ite_T w, fun z => by cases z⟩
    · cases h
  | .ix a i, cc, hW, scp, E, X, e, h, hX => by
    unfold chkE at h
    split at h
    · obtain ⟨h1, h3⟩ := bex h
      obtain ⟨h1, h2⟩ := bex h1
      have q := ix_A hX.prog hX.w hX.K (units100 hX)
      refine .plain (PE.weak (pe_ix q (snd L a hW h2 hX).pe (snd L i hW h3 hX).pe (plainIx_of (bnot h1))) fun σ H Q w => (two_E (fun ρ st => by rw [ev]) w).two fun m st H d v e u s r1 r2 p => ix_ok s r1 r2 p) rfl
    · cases h
  | .sl a lo hi, cc, hW, scp, E, X, e, h, hX => by
    unfold chkE at h
    split at h
    · obtain ⟨h1, h3⟩ := bex h
      obtain ⟨h1, h2⟩ := bex h1
      refine .plain (PE.weak (pe_slice (op_rSl hX.K) (snd L a hW h1 hX).pe (sndO L lo hW h2 hX) (sndO L hi hW h3 hX)) fun σ H Q w => ?_) rfl
      obtain ⟨m, ρ, st, s, r, p⟩ := w
      rw [ev] at p
      refine ⟨m, ρ, st, s, r, p.bind.imp fun d m1 st1 H1 e1 s1 p1 v rv => ?_⟩
      refine ⟨m1, ρ, st1, s1, r.up s e1, p1.bind.imp fun l m2 st2 H2 e2 s2 p2 => ?_⟩
      exact ⟨m2, ρ, st2, s2, (r.up s e1).up s1 e2, p2.bind.imp fun u m3 st3 H3 e3 s3 p3 => sl_ok s3 ((rv.up s1 e2).up s2 e3) p3⟩
    · cases h
  | .rev a, cc, hW, scp, E, X, e, h, hX => by
    unfold chkE at h
    split at h
    · refine .plain (PE.weak (pe_revA (snd L a hW h hX).pe) fun σ H Q w => (one_E (fun ρ st => by rw [ev]) w).one fun m st H d v s r p => ?_) rfl
      rw [hX.K]
      exact rev_ok s r p
    · cases h
  | .fld a f, cc, hW, scp, E, X, e, h, hX => by
    unfold chkE at h
    split at h
    · obtain ⟨h1, h4⟩ := bex h
      obtain ⟨h1, h3⟩ := bex h1
      obtain ⟨h1, h2⟩ := bex h1
      have := of_decide_eq_true h1; subst this
      refine .plain (PE.weak (pe_fld (snd L a hW h4 hX).pe (base_of h3)) fun σ H Q w => by rw [hX.K]; exact fld_E hW (of_decide_eq_true h2) w) rfl
    · cases h
  | .isi a kd, cc, hW, scp, E, X, e, h, hX => by
    unfold chkE at h
    split at h
    · obtain ⟨h1, h6⟩ := bex h
      obtain ⟨h1, h5⟩ := bex h1
      obtain ⟨h1, h4⟩ := bex h1
      obtain ⟨h1, h3⟩ := bex h1
      obtain ⟨h1, h2⟩ := bex h1
      refine .plain (pe_isiE hX hW (of_decide_eq_true h1) (of_decide_eq_true h2) h3 h4 (bnot h5) (snd L a hW h6 hX).pe) rfl
    · cases h
  | .bi b a, cc, hW, scp, E, X, e, h, hX => by
    unfold chkE at h
    split at h
    · obtain ⟨h1, h4⟩ := bex h
      obtain ⟨h1, h3⟩ := bex h1
      obtain ⟨h1, h2⟩ := bex h1
      refine .plain (pe_biE hX hW (of_decide_eq_true h1) h2 (bnot h3) (snd L a hW h4 hX).pe) rfl
    · cases h
  | .call f es, cc, hW, scp, E, X, e, h, hX => by
    unfold chkE at h
    split at h
    · obtain ⟨h1, h3⟩ := bex h
      obtain ⟨h1, h2⟩ := bex h1
      refine .plain (pe_callE hX hW L (of_decide_eq_true h1) h2 (chkEs_stars h3) (sndEs L es hW h3 hX) (chkEs_nil h3)) rfl
    · cases h
  | .mk c es, cc, hW, scp, E, X, e, h, hX => by
    unfold chkE at h
    split at h
    · obtain ⟨h1, h3⟩ := bex h
      obtain ⟨h1, h2⟩ := bex h1
      refine .plain (pe_mkE hX hW L (of_decide_eq_true h1) h2 (chkEs_stars h3) (sndEs L es hW h3 hX) (chkEs_nil h3)) rfl
    · cases h
  | .me0 me a, cc, hW, scp, E, X, e, h, hX => by
    unfold chkE at h
    split at h
    · obtain ⟨h1, h5⟩ := bex h
      obtain ⟨h1, h4⟩ := bex h1
      obtain ⟨h1, h3⟩ := bex h1
      obtain ⟨h1, h2⟩ := bex h1
      refine .plain (pe_me0E hX (of_decide_eq_true h1) h3 h4 (of_decide_eq_true h2) (snd L a hW h5 hX).pe) rfl
    · cases h
  | .me1 me a b, cc, hW, scp, E, X, e, h, hX => by
    unfold chkE at h
    split at h
    · obtain ⟨h1, h7⟩ := bex h
      obtain ⟨h1, h6⟩ := bex h1
      obtain ⟨h1, h5⟩ := bex h1
      obtain ⟨h1, h4⟩ := bex h1
      obtain ⟨h1, h3⟩ := bex h1
      obtain ⟨h1, h2⟩ := bex h1
      refine .plain (pe_me1E hX (of_decide_eq_true h1) h3 h5 (of_decide_eq_true h2) (bnot h4) (snd L a hW h6 hX).pe (snd L b hW h7 hX).pe) rfl
    · cases h
  | .om x mi a es, cc, hW, scp, E, X, e, h, hX => by
    unfold chkE at h
    split at h
    · obtain ⟨h1, h7⟩ := bex h
      obtain ⟨h1, h6⟩ := bex h1
      obtain ⟨h1, h5⟩ := bex h1
      obtain ⟨h1, h4⟩ := bex h1
      obtain ⟨h1, h3⟩ := bex h1
      obtain ⟨h1, h2⟩ := bex h1
      have := of_decide_eq_true h1; subst this
      refine .plain (pe_omE hX hW L (of_decide_eq_true h2) h3 h4 (of_decide_eq_true h5) (snd L a hW h6 hX).pe (chkEs_stars h7) (sndEs L es hW h7 hX) (chkEs_nil h7)) rfl
    · cases h
  | .dnew t, cc, hW, scp, E, X, e, h, hX => by
    unfold chkE at h
    split at h
    · cases t with
      | true =>
        refine .plain (PE.weak pe_ndNew fun σ H Q w p hp => ?_) rfl
        obtain ⟨m, ρ, st, s, r, w⟩ := w
        rw [ev, if_pos rfl] at w
        rw [hX.prog, hX.w]
        exact new_cell s hp (c := .dct []) ⟨[], upd_same, rfl⟩ w
      | false =>
        refine .plain (PE.weak pe_dnewK fun σ H Q w p hp => ?_) rfl
        obtain ⟨m, ρ, st, s, r, w⟩ := w
        rw [ev, if_neg Bool.false_ne_true] at w
        exact new_cell s hp (c := .dck []) ⟨[], upd_same, rfl⟩ w
    · cases h
  | .cch o o' a b c, cc, hW, scp, E, X, e, h, hX => by
    unfold chkE at h
    split at h
    · obtain ⟨h1, h6⟩ := bex h
      obtain ⟨h1, h5⟩ := bex h1
      obtain ⟨h1, h4⟩ := bex h1
      obtain ⟨h1, h3⟩ := bex h1
      obtain ⟨h1, h2⟩ := bex h1
      have q1 := op_rCmp h1 hX.prog hX.w hX.K (units100 hX)
      have q2 := op_rCmp h2 hX.prog hX.w hX.K (units100 hX)
      exact ⟨PE.weak (pe_chain q1 q2 (snd L a hW h4 hX).pe (snd L b hW h5 hX).pe (snd L c hW h6 hX).pe (bnot h3)) fun σ H Q w => cch_E w,
        PT.weak (pt_chain q1 q2 (snd L a hW h4 hX).pe (snd L b hW h5 hX).pe (snd L c hW h6 hX).pe (bnot h3)) fun σ H Q w => cch_E (tE_bl w), fun z => by cases z⟩
    · cases h
  | .lrng1 a, cc, hW, scp, E, X, e, h, hX => by
    unfold chkE at h
    split at h
    · obtain ⟨h1, h6⟩ := bex h
      obtain ⟨h1, h5⟩ := bex h1
      obtain ⟨h1, h4⟩ := bex h1
      obtain ⟨h1, h3⟩ := bex h1
      obtain ⟨h1, h2⟩ := bex h1
      obtain ⟨g1, g2, _, _⟩ := bl_of hX hW h2
      obtain ⟨k1, k2, _, _⟩ := bl_of hX hW h4
      have := of_decide_eq_true h1; subst this
      have := of_decide_eq_true h3; subst this
      refine .plain (PE.weak (pe_listRg hX.calm g1 g2 (prg_1 k1 k2 (snd L a hW h6 hX).pe (star_cons (bnot h5)))) fun σ H Q w => ?_) rfl
      obtain ⟨m, ρ, st, s, r, p⟩ := w
      rw [ev] at p
      refine ⟨m, ρ, st, s, r, p.bind.imp fun d m1 st1 H1 e1 s1 p1 v rv => ?_⟩
      obtain ⟨i, rfl, p2⟩ := p1.iOf
      obtain ⟨c, p2⟩ := p2.ite
      rw [Rp] at rv; subst rv
      refine ⟨i, rfl, .of_le (by decide) (by omega) (by decide) c.1, fun q hq => new_lst s1 hq ?_ p2⟩
      have := rg_rel (K := W.K) (H := H1) (m := m1) 0 i
      rw [Int.sub_zero] at this
      exact this
    · cases h
  | .lrng2 a b, cc, hW, scp, E, X, e, h, hX => by
    unfold chkE at h
    split at h
    · obtain ⟨h1, h8⟩ := bex h
      obtain ⟨h1, h7⟩ := bex h1
      obtain ⟨h1, h6⟩ := bex h1
      obtain ⟨h1, h5⟩ := bex h1
      obtain ⟨h1, h4⟩ := bex h1
      obtain ⟨h1, h3⟩ := bex h1
      obtain ⟨h1, h2⟩ := bex h1
      obtain ⟨g1, g2, _, _⟩ := bl_of hX hW h2
      obtain ⟨k1, k2, _, _⟩ := bl_of hX hW h4
      have := of_decide_eq_true h1; subst this
      have := of_decide_eq_true h3; subst this
      refine .plain (PE.weak (pe_listRg hX.calm g1 g2 (prg_2 k1 k2 (snd L a hW h7 hX).pe (snd L b hW h8 hX).pe (by rw [star_cons (bnot h5), star_cons (bnot h6)]) (star_cons (bnot h6)) (by rw [star_cons (bnot h6)]; rfl))) fun σ H Q w => ?_) rfl
      obtain ⟨m, ρ, st, s, r, p⟩ := w
      rw [ev] at p
      refine ⟨m, ρ, st, s, r, p.bind.imp fun d m1 st1 H1 e1 s1 p1 v rv => ?_⟩
      refine ⟨m1, ρ, st1, s1, r.up s e1, p1.bind.imp fun d2 m2 st2 H2 e2 s2 p2 u ru => ?_⟩
      obtain ⟨i, rfl, p3⟩ := p2.iOf
      obtain ⟨j, rfl, p4⟩ := p3.iOf
      obtain ⟨c, p5⟩ := p4.ite
      rw [Rp] at rv ru; subst rv ru
      exact ⟨i, j, rfl, rfl, .of_le c.1 (by omega) (by omega) c.2.2.1, fun q hq => new_lst s2 hq (rg_rel i j) p5⟩
    · cases h
  | .srt a, cc, hW, scp, E, X, e, h, hX => by
    unfold chkE at h
    split at h
    · obtain ⟨h1, h4⟩ := bex h
      obtain ⟨h1, h3⟩ := bex h1
      obtain ⟨h1, h2⟩ := bex h1
      exact .plain (pe_srtE hX hW (of_decide_eq_true h1) h2 (bnot h3) (snd L a hW h4 hX).pe) rfl
    · cases h
  | .dpairs a, cc, hW, scp, E, X, e, h, hX => by
    unfold chkE at h
    split at h
    · obtain ⟨h1, h4⟩ := bex h
      obtain ⟨h1, h3⟩ := bex h1
      obtain ⟨h1, h2⟩ := bex h1
      exact .plain (pe_dpairsE hX hW (of_decide_eq_true h1) h2 (bnot h3) (snd L a hW h4 hX).pe) rfl
    · cases h
  | .srtk a, cc, hW, scp, E, X, e, h, hX => by
    unfold chkE at h
    split at h
    · obtain ⟨h1, h8⟩ := bex h
      obtain ⟨h1, h7⟩ := bex h1
      obtain ⟨h1, h6⟩ := bex h1
      obtain ⟨h1, h5⟩ := bex h1
      obtain ⟨h1, h4⟩ := bex h1
      obtain ⟨h1, h3⟩ := bex h1
      obtain ⟨h1, h2⟩ := bex h1
      exact .plain (pe_srtkE hX hW (of_decide_eq_true h1) h2 (bnot h3) (of_decide_eq_true h4) h5 h6 h7 (snd L a hW h8 hX).pe) rfl
    · cases h
  | .told a, cc, hW, scp, E, X, e, h, hX => by
    unfold chkE at h
    split at h
    · obtain ⟨h1, h6⟩ := bex h
      obtain ⟨h1, h5⟩ := bex h1
      obtain ⟨h1, h4⟩ := bex h1
      obtain ⟨h1, h3⟩ := bex h1
      obtain ⟨h1, h2⟩ := bex h1
      exact .plain (pe_toldE hX hW (of_decide_eq_true h1) h2 h3 h4 h5 fun E' X' hX' => (snd L a hW.nolam h6 hX').pe) rfl
    · cases h
  | .mn2 mx a b, cc, hW, scp, E, X, e, h, hX => by
    unfold chkE at h
    split at h
    · obtain ⟨h1, h6⟩ := bex h
      obtain ⟨h1, h5⟩ := bex h1
      obtain ⟨h1, h4⟩ := bex h1
      obtain ⟨h1, h3⟩ := bex h1
      obtain ⟨h1, h2⟩ := bex h1
      exact .plain (pe_mn2E hX hW (of_decide_eq_true h1) h2 (bnot h3) (bnot h4) (snd L a hW h5 hX).pe (snd L b hW h6 hX).pe) rfl
    · cases h
  | .comp a t own it c, cc, hW, scp, E, X, e, h, hX => by
    unfold chkE at h
    split at h
    · rename_i _ elt tg iter ifs kk scope pos
      obtain ⟨h1, h8⟩ := bex h
      obtain ⟨h1, h7⟩ := bex h1
      obtain ⟨h1, h6⟩ := bex h1
      obtain ⟨h1, h5⟩ := bex h1
      obtain ⟨h1, htg⟩ := bex h1
      obtain ⟨h1, h4⟩ := bex h1
      obtain ⟨h1, h3⟩ := bex h1
      obtain ⟨h1, h2⟩ := bex h1
      have := of_decide_eq_true h1; subst this
      have hown : ∀ i ∈ t.slots, i ∈ own := fun i hi => of_decide_eq_true (List.all_eq_true.mp h3 i hi)
      have hblk := blkOk_by h2
      have e2 : (own.map fun i => (Ns.getD i "", i)).map (·.2) = own := by rw [List.map_map]; exact (List.map_congr_left fun _ _ => rfl).trans (List.map_id _)
      have q := pe_lc (X := X) (elt := elt) (tg := tg) (iter := iter) (ifs := ifs) (scope := scope) (pos := pos) (wi := tI W E (evI (W.cl k) it)) (g := gIT W.K t) (tt := tT W E0 (evC (W.cl k) c)) (te := tE W E0 (ev (W.cl k) a)) (own := own.map fun i => (Ns.getD i "", i)) hX.calm (by rw [hX.N]; exact hX.nd) (sndI L it hW h5 htg hX) (by rw [hX.N, hX.sc]; exact hblk)
        (fun s H C cl fp => by
          have z := pg_IT (hX.tblk s H C cl fp) h4
          have ek : (X.blk s H scope (compEnvC scope cl C X.env) fp).K = W.K := hX.K
          rw [ek] at z
          exact z)
        (fun s H C cl fp => sndC L c hW h7 (hX.blk s H C cl fp)) (fun s H C cl fp => (snd L a hW h8 (hX.blk s H C cl fp)).pe) (foldSet_of (bnot h6))
      rw [e2] at q
      refine .plain (PE.weak q fun σ H Q w => comp_E hown w) rfl
    · cases h
theorem sndEs (L : Lv W k) : ∀ (a : IEs) {cc : CC} (hW : WOk W cc) {scp : Scope} {E : XK} {X : Cx} {e : List Expr}, chkEs cc Ns scp a e = true → XOk W cc Ns scp k E X → PA X e (tA W E (evs (W.cl k) a))
  | .nil, cc, hW, scp, E, X, e, h, hX => by
    unfold chkEs at h
    split at h
    · exact PA.of_nil rfl
    · cases h
  | .cons a r, cc, hW, scp, E, X, e, h, hX => by
    unfold chkEs at h
    split at h
    · obtain ⟨h1, h3⟩ := bex h
      obtain ⟨h1, h2⟩ := bex h1
      exact PA.weak (pa_cons (snd L a hW h2 hX).pe (sndEs L r hW h3 hX) (star_cons (bnot h1))) fun σ H Q w => evs_cons w
    · cases h
theorem sndO (L : Lv W k) : ∀ (a : IO) {cc : CC} (hW : WOk W cc) {scp : Scope} {E : XK} {X : Cx} {e : Option Expr}, chkO cc Ns scp a e = true → XOk W cc Ns scp k E X → PO X e (tO W E (evO (W.cl k) a))
  | .none, cc, hW, scp, E, X, e, h, hX => by
    unfold chkO at h
    split at h
    · refine PO.weak po_none fun σ H Q w => ?_
      obtain ⟨m, ρ, st, s, r, p⟩ := w
      rw [evO] at p
      exact p.now s
    · cases h
  | .some a, cc, hW, scp, E, X, e, h, hX => by
    unfold chkO at h
    split at h
    · refine PO.weak (po_some (snd L a hW h hX).pe) fun σ H Q w => ?_
      obtain ⟨m, ρ, st, s, r, p⟩ := w
      rw [evO] at p
      refine ⟨m, ρ, st, s, r, p.bind.imp fun d m1 st1 H1 e1 s1 p1 v rv => ?_⟩
      obtain ⟨i, rfl, p2⟩ := p1.iOf
      rw [Rp] at rv; subst rv
      exact ⟨i, rfl, p2.now s1⟩
    · cases h
theorem sndC (L : Lv W k) : ∀ (a : IO) {cc : CC} (hW : WOk W cc) {scp : Scope} {E : XK} {X : Cx} {e : List Expr}, chkC cc Ns scp a e = true → XOk W cc Ns scp k E X → PTs X e (tT W E (evC (W.cl k) a))
  | .none, cc, hW, scp, E, X, e, h, hX => by
    unfold chkC at h
    split at h
    · refine ⟨fun pins s σ H Q I w => pts_nil.run pins s σ H Q I ?_⟩
      obtain ⟨m, ρ, st, s, r, p⟩ := w
      rw [evC] at p
      exact p.now s
    · cases h
  | .some a, cc, hW, scp, E, X, e, h, hX => by
    unfold chkC at h
    split at h
    · refine ⟨fun pins s σ H Q I w => (pts_one (snd L a hW h hX).pt).run pins s σ H Q I ?_⟩
      obtain ⟨m, ρ, st, s, r, p⟩ := w
      rw [evC] at p
      exact ⟨m, ρ, st, s, r, p⟩
    · cases h
theorem sndI (L : Lv W k) : ∀ (a : II) {cc : CC} (hW : WOk W cc) {scp : Scope} {E : XK} {X : Cx} {tg e : Expr}, chkI cc Ns scp a e = true → tgOk a tg = true → XOk W cc Ns scp k E X → PI X tg e (tI W E (evI (W.cl k) a))
  | .enum a, cc, hW, scp, E, X, tg, e, h, ht, hX => by
    unfold chkI at h
    cases tg with
    | Tuple elts kk tpos =>
      split at h
      · obtain ⟨h1, h4⟩ := bex h
        obtain ⟨h1, h3⟩ := bex h1
        obtain ⟨h1, h2⟩ := bex h1
        exact pi_enumE hX hW (of_decide_eq_true h1) h2 (bnot h3) (snd L a hW h4 hX).pe
      · cases h
    | _ => exact absurd ht (by simp [tgOk])
  | .it a, cc, hW, scp, E, X, tg, e, h, _, hX => by
    unfold chkI at h
    exact pi_itE hX.K (snd L a hW h hX).pe
  | .rng1 a, cc, hW, scp, E, X, tg, e, h, _, hX => by
    unfold chkI at h
    split at h
    · obtain ⟨h1, h4⟩ := bex h
      obtain ⟨h1, h3⟩ := bex h1
      obtain ⟨h1, h2⟩ := bex h1
      exact pi_rng1E hX hW (of_decide_eq_true h1) h2 (bnot h3) (snd L a hW h4 hX).pe
    · cases h
  | .rng2 a b, cc, hW, scp, E, X, tg, e, h, _, hX => by
    unfold chkI at h
    split at h
    · obtain ⟨h1, h6⟩ := bex h
      obtain ⟨h1, h5⟩ := bex h1
      obtain ⟨h1, h4⟩ := bex h1
      obtain ⟨h1, h3⟩ := bex h1
      obtain ⟨h1, h2⟩ := bex h1
      exact pi_rng2E hX hW (of_decide_eq_true h1) h2 (bnot h3) (bnot h4) (snd L a hW h5 hX).pe (snd L b hW h6 hX).pe
    · cases h
end
end
end Z
namespace Z
open PySem L2
/-! ### statements -/
def PgS (W : Wd) (E : XK) (m : List Addr) (H : Hp) (r : SR) (D : Ends) : Prop := match r with
  | .ok .nx ρ st => ∀ σ' H' m', Ext m m' H H' → Sim W H' m' st → EnvR W H' m' ρ σ' → D.nx σ' H'
  | .ok .bk ρ st => ∀ σ' H' m', Ext m m' H H' → Sim W H' m' st → EnvR W H' m' ρ σ' → D.bk σ' H'
  | .ok .ct ρ st => ∀ σ' H' m', Ext m m' H H' → Sim W H' m' st → EnvR W H' m' ρ σ' → D.ct σ' H'
  | .ok (.rt d) _ st => ∀ v H' m', Ext m m' H H' → Sim W H' m' st → Rp W.K H' m' d v → D.rt v H'
  | .exc e _ st => ∀ dx H' m', Ext m m' H H' → Sim W H' m' st → ExR W H' m' e dx → E (.ref (W.ca e.c)) dx H'
  | .stuck => False
def tS (W : Wd) (E : XK) (f : Env → Sto → SR) : TS := fun D σ H => ∃ m ρ st, Sim W H m st ∧ EnvR W H m ρ σ ∧ PgS W E m H (f ρ st) D
section
variable {W : Wd} {E : XK} {m m' : List Addr} {H H' : Hp} {α : Type} {D : Ends}
theorem PgS.up {r : SR} (e : Ext m m' H H') (h : PgS W E m H r D) : PgS W E m' H' r D := by
  cases r with
  | ok f ρ st => cases f with
    | nx => exact fun σ2 H2 m2 e2 => h σ2 H2 m2 (e.trans e2)
    | bk => exact fun σ2 H2 m2 e2 => h σ2 H2 m2 (e.trans e2)
    | ct => exact fun σ2 H2 m2 e2 => h σ2 H2 m2 (e.trans e2)
    | rt d => exact fun v H2 m2 e2 => h v H2 m2 (e.trans e2)
  | exc x ρ st => exact fun dx H2 m2 e2 => h dx H2 m2 (e.trans e2)
  | stuck => exact h
theorem PgS.sbind {r : R α} {ρ : Env} {f : α → Sto → SR} (h : PgS W E m H (r.sbind ρ f) D) : Pg W E m H r fun a m' st' H' => PgS W E m' H' (f a st') D := by
  cases r with
  | ok a st => exact fun H2 m2 e2 s2 => PgS.up e2 h
  | exc x st => exact h
  | stuck => exact h
/-- behind a statement -/
def kNx (W : Wd) (E : XK) (m : List Addr) (H : Hp) (f : Env → Sto → SR) (D : Ends) : L2.St → Hp → Prop := fun σ' H' => ∃ m' ρ' st', Ext m m' H H' ∧ Sim W H' m' st' ∧ EnvR W H' m' ρ' σ' ∧ PgS W E m' H' (f ρ' st') D
theorem PgS.then {r : SR} {f : Env → Sto → SR} (h : PgS W E m H (r.then f) D) : PgS W E m H r { D with nx := kNx W E m H f D } := by
  cases r with
  | ok g ρ st => cases g with
    | nx => exact fun σ2 H2 m2 e2 s2 r2 => ⟨m2, ρ, st, e2, s2, r2, PgS.up e2 h⟩
    | bk => exact h
    | ct => exact h
    | rt d => exact h
  | exc x ρ st => exact h
  | stuck => exact h
theorem PgS.noex {r : SR} (h : PgS W E m H r.noex D) : PgS W (fun _ _ _ => False) m H r D := by
  cases r with
  | ok g ρ st => cases g <;> exact h
  | exc x ρ st => exact h.elim
  | stuck => exact h
theorem PgS.turn {r : SR} {f : Env → Sto → SR} (h : PgS W E m H (r.turn f) D) : PgS W E m H r { D with nx := kNx W E m H f D, ct := kNx W E m H f D, bk := D.nx } := by
  cases r with
  | ok g ρ st => cases g with
    | nx => exact fun σ2 H2 m2 e2 s2 r2 => ⟨m2, ρ, st, e2, s2, r2, PgS.up e2 h⟩
    | bk => exact h
    | ct => exact fun σ2 H2 m2 e2 s2 r2 => ⟨m2, ρ, st, e2, s2, r2, PgS.up e2 h⟩
    | rt d => exact h
  | exc x ρ st => exact h
  | stuck => exact h
theorem PgS.turn' {r : SR} {f : Env → Sto → SR} {H0 : Hp} {m0 : List Addr} (e : Ext m0 m H0 H) (h : PgS W E m0 H0 (r.turn f) D) : PgS W E m H r { D with nx := kNx W E m0 H0 f D, ct := kNx W E m0 H0 f D, bk := D.nx } := PgS.up e (PgS.turn h)
theorem PgS.ite {c : Prop} [Decidable c] {a : SR} (h : PgS W E m H (if c then a else .stuck) D) : c ∧ PgS W E m H a D := by
  by_cases hc : c
  · rw [if_pos hc] at h; exact ⟨hc, h⟩
  · rw [if_neg hc] at h; exact h.elim
end
section
variable {W : Wd} {cc : CC} {Ns : List Str} {scp : Scope} {k : Nat} {E : XK} {X : Cx} {C : Cl} {F : Nat} {D : Ends} {σ : L2.St} {H : Hp}
theorem asg_S {t : IT} {e : IE} (h : tS W E (evS C F (.asg t e)) D σ H) : tAsg (tE W E (ev C e)) (gIT W.K t) D σ H := by
  obtain ⟨m, ρ, st, s, r, p⟩ := h
  rw [evS] at p
  refine ⟨m, ρ, st, s, r, p.sbind.imp fun d m1 st1 H1 e1 s1 p1 v rv => ?_⟩
  split at p1
  · rename_i ρ' hρ
    exact gIT_ok rv (r.up s e1) hρ fun σ' r' _ => p1 σ' H1 m1 Ext.refl s1 r'
  · exact p1.elim
theorem setf_S (hW : WOk W cc) {a e : IE} {f : Str} (hf : f ∈ cc.flds) (h : tS W E (evS C F (.setf a f e)) D σ H) : sFld W.K (tE W E (ev C a)) (tE W E (ev C e)) f D σ H := by
  obtain ⟨m, ρ, st, s, r, p⟩ := h
  rw [evS] at p
  refine ⟨m, ρ, st, s, r, p.sbind.imp fun y m1 st1 H1 e1 s1 p1 vy ry => ?_⟩
  have r1 := r.up s e1
  refine ⟨m1, ρ, st1, s1, r1, p1.sbind.imp fun x m2 st2 H2 e2 s2 p2 vx rx => ?_⟩
  have r2 := r1.up s1 e2
  have ry := ry.up s1 e2
  cases x with
  | loc n =>
    simp only at p2
    split at p2
    · rename_i c fs hc
      obtain ⟨hlen, p2⟩ := p2.ite
      obtain ⟨ad, had, dx, gs, hcl, h1, h2⟩ := s2.at hc
      rw [Rp] at rx
      obtain ⟨a', ha', rfl⟩ := rx
      rw [had] at ha'; cases ha'
      have hl : gs.length = fs.length := by have := congrArg List.length h2.1; simpa using this
      refine ⟨ad, W.ca c, dx, gs, rfl, h1, hW.cls c hcl, hW.nf c f hcl hf, by omega, ?_⟩
      have e0 : Ext m2 m2 H2 (upd H2 ad (.ins (W.ca c) dx (putF f vy gs))) := ⟨⟨[], by simp⟩, fun b u h _ nn => ⟨by
        rw [upd_ne fun z => nn (by rw [z]; exact List.mem_of_getElem? had)]; exact h, nn⟩⟩
      obtain ⟨s3, e3⟩ := s2.write had (o := .ins (W.ca c) dx (putF f vy gs)) (c := .ins c (putF' f y fs)) ⟨dx, _, hcl, upd_same, (h2.up s2 e0).put (ry.up s2 e0)⟩
      exact p2 σ _ m2 e3 s3 (r2.up s2 e3)
    · exact p2.elim
  | _ => exact p2.elim
def rDkSet : TSet := fun o i v H Q => ∃ a H', o = .ref a ∧ DPut H a i v H' ∧ Q H'
theorem set_dk (hu : X.A.units + 1 < cLine) : PSet X rDkSet := by
  intro pins s σ H o i v ov iv u Q I ro ri rv h
  obtain ⟨a, H', rfl, g, q⟩ := h
  obtain rfl : ov = Value.ref a := ro
  exact d_setItem hu I g ri rv fun s' I' => ⟨H', I', q⟩
def rSetA (W : Wd) : TSet := fun o i v H Q => rSetL o i v H Q ∨ (rNdSet W.P W.w W.K o i v H Q ∨ rDkSet o i v H Q)
theorem set_A (hP : X.prog = W.P) (hw : X.w = W.w) (hK : X.K = W.K) (hu : X.A.units + 100 < cLine) : PSet X (rSetA W) := by
  intro pins s σ H o i v ov iv u Q I ro ri rv h
  rcases h with h | h | h
  · exact set_list pins s σ H o i v ov iv u Q I ro ri rv h
  · exact set_nd (by omega) pins s σ H o i v ov iv u Q I ro ri rv (by rw [hP, hw, hK]; exact h)
  · exact set_dk (by omega) pins s σ H o i v ov iv u Q I ro ri rv h
theorem chg_dk {m : List Addr} {st : Sto} {ρ : Env} {n : Nat} {k d : Z.D} {vo vk v : V} {kvs : List (Z.D × Z.D)} (s : Sim W H m st) (r : EnvR W H m ρ σ) (ro : Rp W.K H m (.loc n) vo) (rk : Rp W.K H m k vk) (rd : Rp W.K H m d v) (hx : st[n]? = some (.dck kvs)) (hk : keyK k = true) (hl : kvs.length < LIM)
    (p : PgS W E m H (.ok .nx ρ (st.set n (.dck (dPut kvs k d)))) D) : rDkSet vo vk v H (fun H' => D.nx σ H') := by
  obtain ⟨a, rfl, ha, xs, h1, h2⟩ := loc_at s ro hx
  obtain ⟨ky, g1⟩ := keyK_ok hk
  have := kyD_v g1 rk; subst this
  refine ⟨a, _, rfl, DPut.k h1 (by rw [h2.len]; exact lim_lt hl), ?_⟩
  have e0 : Ext m m H (upd H a (.dK (putK xs ky v))) := ⟨⟨[], by simp⟩, fun c u h _ nn => ⟨by
    rw [upd_ne fun z => nn (by rw [z]; exact List.mem_of_getElem? ha)]; exact h, nn⟩⟩
  obtain ⟨s4, e4⟩ := s.write ha (o := .dK (putK xs ky v)) (c := .dck (dPut kvs k d)) ⟨_, upd_same, (h2.up s e0).put g1 (rd.up s e0)⟩
  exact p σ _ m e4 s4 (r.up s e4)
theorem chg_dt {m : List Addr} {st : Sto} {ρ : Env} {n : Nat} {k d : Z.D} {vo vk v : V} {kvs : List (Z.D × Z.D)} (s : Sim W H m st) (r : EnvR W H m ρ σ) (ro : Rp W.K H m (.loc n) vo) (rk : Rp W.K H m k vk) (rd : Rp W.K H m d v) (hx : st[n]? = some (.dct kvs)) (hk : keyT k = true) (hl : kvs.length < LIM)
    (p : PgS W E m H (.ok .nx ρ (st.set n (.dct (dPut kvs k d)))) D) : rNdSet W.P W.w W.K vo vk v H (fun H' => D.nx σ H') := by
  obtain ⟨a, rfl, ha, xs, h1, h2⟩ := loc_at s ro hx
  obtain ⟨b, nk, rfl, g1, g2, g3⟩ := keyT_ok hk rk
  refine ⟨a, b, xs, nk, rfl, rfl, h1, h2.keys, g3, g2, by rw [h2.len]; exact lim_lt hl, fun u ru => ?_⟩
  have e0 : Ext m m H (upd H a (NdO W.P W.w a (storedH xs nk b u))) := ⟨⟨[], by simp⟩, fun c u h _ nn => ⟨by
    rw [upd_ne fun z => nn (by rw [z]; exact List.mem_of_getElem? ha)]; exact h, nn⟩⟩
  obtain ⟨s4, e4⟩ := s.write ha (o := NdO W.P W.w a (storedH xs nk b u)) (c := .dct (dPut kvs k d)) ⟨_, upd_same, (h2.up s e0).put g1 g2 (rk.up s e0) ru (rd.up s e0)⟩
  exact p σ _ m e4 s4 (r.up s e4)
theorem seti_S {a i e : IE} (h : tS W E (evS C F (.seti a i e)) D σ H) : tAsg (tE W E (ev C e)) (gSub (tE W E (ev C a)) (tE W E (ev C i)) (rSetA W)) D σ H := by
  obtain ⟨m, ρ, st, s, r, p⟩ := h
  rw [evS] at p
  refine ⟨m, ρ, st, s, r, p.sbind.imp fun y m1 st1 H1 e1 s1 p1 vy ry => ?_⟩
  have r1 := r.up s e1
  refine ⟨m1, ρ, st1, s1, r1, p1.sbind.imp fun x m2 st2 H2 e2 s2 p2 vx rx => ?_⟩
  have r2 := r1.up s1 e2
  refine ⟨m2, ρ, st2, s2, r2, p2.sbind.imp fun z m3 st3 H3 e3 s3 p3 vz rz => ?_⟩
  have r3 := r2.up s2 e3
  have rx := rx.up s2 e3
  have ry := (ry.up s1 e2).up s2 e3
  split at p3
  · skip
    split at p3
    · rename_i xs hx
      split at p3
      · rename_i j hj
        obtain ⟨b, vs, rfl, hb, h1, h2⟩ := list_at s3 rx hx
        rw [Rp] at rz; subst rz
        refine .inl ⟨b, vs, _, j, rfl, rfl, h1, by rw [h2.len]; exact hj, ?_⟩
        have e0 : Ext m3 m3 H3 (upd H3 b (.lst (vs.set j vy))) := ⟨⟨[], by simp⟩, fun c u h _ nn => ⟨by
          rw [upd_ne fun z => nn (by rw [z]; exact List.mem_of_getElem? hb)]; exact h, nn⟩⟩
        obtain ⟨s4, e4⟩ := s3.write hb (o := .lst (vs.set j vy)) (c := .lst (xs.set j y)) ⟨_, upd_same, (h2.up s3 e0).set (ry.up s3 e0) j⟩
        exact p3 σ _ m3 e4 s4 (r3.up s3 e4)
      · exact p3.elim
    · rename_i kvs hx
      obtain ⟨c, p3⟩ := p3.ite
      exact .inr (.inr (chg_dk s3 r3 rx rz ry hx rfl c p3))
    · exact p3.elim
  · split at p3
    · rename_i kvs hx
      obtain ⟨c, p3⟩ := p3.ite
      exact .inr (.inr (chg_dk s3 r3 rx rz ry hx rfl c p3))
    · exact p3.elim
  · split at p3
    · rename_i kvs hx
      obtain ⟨c, p3⟩ := p3.ite
      exact .inr (.inl (chg_dt s3 r3 rx rz ry hx c.1 c.2 p3))
    · exact p3.elim
  · exact p3.elim
theorem expr_S {e : IE} (h : tS W E (evS C F (.expr e)) D σ H) : tDrop (tE W E (ev C e)) D σ H := by
  obtain ⟨m, ρ, st, s, r, p⟩ := h
  rw [evS] at p
  exact ⟨m, ρ, st, s, r, p.sbind.imp fun d m1 st1 H1 e1 s1 p1 v rv => p1 σ H1 m1 Ext.refl s1 (r.up s e1)⟩
theorem ret_S {e : IE} (h : tS W E (evS C F (.ret e)) D σ H) : tRet (tE W E (ev C e)) D σ H := by
  obtain ⟨m, ρ, st, s, r, p⟩ := h
  rw [evS] at p
  exact ⟨m, ρ, st, s, r, p.sbind.imp fun d m1 st1 H1 e1 s1 p1 v rv => p1 v H1 m1 Ext.refl s1 rv⟩
theorem tryN_S {b : ISs} (h : tS W E (evS C F (.tryN b)) D σ H) : tS W E0 (evSs C F b) D σ H := by
  obtain ⟨m, ρ, st, s, r, p⟩ := h
  rw [evS] at p
  exact ⟨m, ρ, st, s, r, p.noex⟩
theorem ite_S {c : IE} {a b : ISs} (h : tS W E (evS C F (.ite c a b)) D σ H) : tIfS (tT W E (evT C c)) (tS W E (evSs C F a)) (tS W E (evSs C F b)) D σ H := by
  obtain ⟨m, ρ, st, s, r, p⟩ := h
  rw [evS] at p
  refine ⟨m, ρ, st, s, r, p.sbind.imp fun k m1 st1 H1 e1 s1 p1 => ?_⟩
  cases k with
  | true => exact iteT ⟨m1, ρ, st1, s1, r.up s e1, p1⟩
  | false => exact iteF ⟨m1, ρ, st1, s1, r.up s e1, p1⟩
theorem whl_S {c : IE} {b : ISs} (h : tS W E (evS C F (.whl c b)) D σ H) : tWhile (tT W E (evT C c)) (tS W E (evSs C F b)) D σ H := by
  obtain ⟨m, ρ, st, s, r, p⟩ := h
  rw [evS] at p
  refine ⟨fun n σ H => ∃ m ρ st, Sim W H m st ∧ EnvR W H m ρ σ ∧ PgS W E m H (loopW (evT C c) (evSs C F b) n ρ st) D, ⟨F, m, ρ, st, s, r, p⟩, ?_⟩
  rintro n σ H ⟨m, ρ, st, s, r, p⟩
  cases n with
  | zero => exact p.elim
  | succ n =>
    rw [loopW] at p
    refine ⟨m, ρ, st, s, r, p.sbind.imp fun k m1 st1 H1 e1 s1 p1 => ?_⟩
    have r1 := r.up s e1
    cases k with
    | true =>
      refine iteT ⟨kNx W E m1 H1 (loopW (evT C c) (evSs C F b) n) D, fun σ' H' ⟨m', ρ', st', _, s', r', p'⟩ => ⟨n, Nat.lt_succ_self n, m', ρ', st', s', r', p'⟩, m1, ρ, st1, s1, r1, ?_⟩
      rw [if_pos rfl] at p1
      exact p1.turn
    | false =>
      rw [if_neg Bool.false_ne_true] at p1
      exact iteF (p1 σ H1 m1 Ext.refl s1 r1)
theorem for_S {t : IT} {it : II} {b : ISs} (h : tS W E (evS C F (.for_ t it b)) D σ H) : tFor (tI W E (evI C it)) (gIT W.K t) (tS W E (evSs C F b)) D σ H := by
  obtain ⟨m, ρ, st, s, r, p⟩ := h
  rw [evS] at p
  refine ⟨m, ρ, st, s, r, p.sbind.imp fun w m1 st1 H1 e1 s1 p1 J hJ => ?_⟩
  have r1 := r.up s e1
  refine ⟨fun i mm σ H => mm = w.xs.length - i ∧ i ≤ w.xs.length ∧ ∃ m ρ st, Ext m1 m H1 H ∧ Sim W H m st ∧ EnvR W H m ρ σ ∧ PgS W E m H (loopF w t (evSs C F b) (w.xs.drop i) ρ st) D,
    ⟨w.xs.length, by simp, Nat.zero_le _, m1, ρ, st1, Ext.refl, s1, r1, by simpa using p1⟩, ?_⟩
  rintro i mm σ H2 ⟨rfl, hi, m2, ρ2, st2, e2, s2, r2, p2⟩
  by_cases hlt : i < w.xs.length
  · right
    rw [List.drop_eq_getElem_cons hlt] at p2
    unfold loopF at p2
    obtain ⟨hst, p2⟩ := p2.ite
    obtain ⟨w1, w2⟩ := hJ H2 m2 st2 e2 s2 hst i
    obtain ⟨g1, g2⟩ := w1 _ (List.getElem?_eq_getElem hlt)
    refine ⟨g1, kNx W E m2 H2 (loopF w t (evSs C F b) (w.xs.drop (i + 1))) D, fun σ' H' ⟨m', ρ', st', e', s', r', p'⟩ => ⟨w.xs.length - (i + 1), by omega, rfl, hlt, m', ρ', st', e2.trans e', s', r', p'⟩, fun x H' hy => ?_⟩
    obtain ⟨ey, sy, rx⟩ := g2 x H' hy
    split at p2
    · rename_i ρ' hρ
      exact gIT_ok rx (r2.up s2 ey) hρ fun σ' r' _ => ⟨m2, ρ', st2, sy, r', PgS.turn' ey p2⟩
    · exact p2.elim
  · left
    have hi' : i = w.xs.length := by omega
    subst hi'
    rw [List.drop_length] at p2
    unfold loopF at p2
    obtain ⟨hst, p2⟩ := p2.ite
    exact ⟨(hJ H2 m2 st2 e2 s2 hst _).2 (Nat.le_refl _), p2 σ H2 m2 Ext.refl s2 r2⟩

/-! ### blocks -/
structure SOk (W : Wd) (cc : CC) (Ns : List Str) (scp : Scope) (k : Nat) (E : XK) (X : Cx) : Prop extends XOk W cc Ns scp k E X where
  fn : X.fn = fun _ => true
  kd : scp.kind = .function
  own : PassesOwn (model X.prog X.w) X.A X.env X.xe
  tk : Takes X (fun cls d _ H' => E cls d H')
theorem SOk.t (h : SOk W cc Ns scp k E X) : TOk Ns scp (fun _ => true) X := ⟨h.N, h.nd, h.sc, h.fn, h.calm⟩
theorem sw_plain {v : Expr} {t : Option Expr} {l : Nat} {env : PySem.Env} (h : isComp v = false) : swapsWith v t l env = pure false := by
  cases v <;> first | rfl | cases h
theorem sw_attr {v o : Expr} {f : Str} {p : Pos} {l : Nat} {env : PySem.Env} : swapsWith v (some (.Attribute o f p)) l env = pure false := by
  cases v <;> rfl
theorem sw_sub {v o i : Expr} {p : Pos} {l : Nat} {env : PySem.Env} : swapsWith v (some (.Subscript o i p)) l env = pure false := by
  cases v <;> rfl
theorem swap_none {tg v : Expr} {env : PySem.Env} (h : bothTup tg v = false) (ht : ∀ es p, tg ≠ .List es p) : swappedStores [tg] v env = pure none := by
  cases tg with
  | List es p => exact absurd rfl (ht es p)
  | Tuple ts k p => cases v <;> first | rfl | cases h
  | _ => rfl
theorem swap_noloc {tg v : Expr} {env : PySem.Env} (h : noSwapB env.scope tg = true) : swappedStores [tg] v env = pure none := by
  unfold noSwapB at h
  split at h
  · rename_i ts k p
    cases v with
    | Tuple vs kv pv =>
      have hne : (ts.filterMap fun
          | .Name id pos => if env.kindOf id == some .local && pos.line == (ts.head?.map (·.pos.line)).getD 0 then some id else none
          | _ => none).length ≠ ts.length := by
        obtain ⟨t, ht, hb⟩ := List.any_eq_true.mp h
        intro e
        have h2 := List.filterMap_length_eq_length.mp e t ht
        cases t with
        | Name x px =>
          have hb : (!decide (env.scope.names.lookup x = some .local)) = true := hb
          have : (env.kindOf x == some NameKind.local) = false := by
            rw [Bool.not_eq_true', decide_eq_false_iff_not] at hb
            rw [beq_eq_false_iff_ne]
            exact hb
          simp [this] at h2
        | _ => simp at h2
      unfold swappedStores
      simp only [pure_bind]
      split
      · rfl
      · split
        · rfl
        · rw [if_pos (by simp only [Bool.or_eq_true, bne_iff_ne]; exact .inl hne)]
    | _ => rfl
  · cases h
theorem sub_store {o i : Expr} {pos : Pos} {env : PySem.Env} (h : isSlice i = false) : ∀ v, assign (.Subscript o i pos) env v = (do
      let ov ← holding [v] (eval o env)
      let iv ← holding [v, ov] (eval i env)
      standAt pos
      holding [v, ov, iv] (setItem ov iv v)
      release [v, ov, iv] []) := by
  intro v
  cases i <;> first | rfl | cases h
end
end Z
namespace Z
open PySem L2
section
variable {W : Wd} {cc : CC} {Ns : List Str} {k : Nat}
/-- name = [.. for ..] -/
theorem set_comp (hW : WOk W cc) (L : Lv W k) {scp : Scope} {E : XK} {X : Cx} {e : IE} {elt : Expr} {gs : List Comprehension} {scope : Scope} {pos py spos : Pos} {y : Str} {i : Nat} (hX : SOk W cc Ns scp k E X)
    (h : chkE cc Ns scp e (.ListComp elt gs scope pos) = true) (hi : Ns[i]? = some y) (hl : scp.names.lookup y = some .local) (hline : (py.line == pos.line) = true) (hno : (scope.names.any fun (n, k) => n == y && (k == .local || k == .cell)) = false) :
    PS X (.Assign [.Name y py] (.ListComp elt gs scope pos) spos) (tAsg (tE W E (ev (W.cl k) e)) (gName i)) := by
  cases e with
  | comp a t own it c =>
    unfold chkE at h
    split at h
    · rename_i x elt tg iter ifs kk scope pos ee
      injection ee with ee1 ee2 ee3 ee4
      subst ee1 ee2 ee3 ee4
      obtain ⟨h1, h8⟩ := bex h
      obtain ⟨h1, h7⟩ := bex h1
      obtain ⟨h1, h6⟩ := bex h1
      obtain ⟨h1, h5⟩ := bex h1
      obtain ⟨h1, htg⟩ := bex h1
      obtain ⟨h1, h4⟩ := bex h1
      obtain ⟨h1, h3⟩ := bex h1
      obtain ⟨h1, h2⟩ := bex h1
      have := of_decide_eq_true h1; subst this
      have hX' := hX.toXOk
      have hown : ∀ i ∈ t.slots, i ∈ own := fun i hi => of_decide_eq_true (List.all_eq_true.mp h3 i hi)
      have hblk := blkOk_by h2
      have e2 : (own.map fun i => (Ns.getD i "", i)).map (·.2) = own := by rw [List.map_map]; exact (List.map_congr_left fun _ _ => rfl).trans (List.map_id _)
      have q := ps_setLc (X := X) (i := i) (y := y) (py := py) (spos := spos) (elt := elt) (tg := tg) (iter := iter) (ifs := ifs) (scope := scope) (pos := pos) (wi := tI W E (evI (W.cl k) it)) (g := gIT W.K t) (tt := tT W E0 (evC (W.cl k) c)) (te := tE W E0 (ev (W.cl k) a)) (own := own.map fun i => (Ns.getD i "", i)) hX.calm (by rw [hX.N]; exact hX.nd)
        (by rw [hX.N]; exact hi) (by rw [hX.sc]; exact hl) (sw_true (by rw [hX.sc]; exact hX.kd) (by rw [hX.sc]; exact hl) hline hno) (sndI L it hW h5 htg hX') (by rw [hX.N, hX.sc]; exact hblk)
        (fun s H C cl fp => by
          have z := pg_IT (hX'.tblk s H C cl fp) h4
          have ek : (X.blk s H scope (compEnvC scope cl C X.env) fp).K = W.K := hX.K
          rw [ek] at z
          exact z)
        (fun s H C cl fp => sndC L c hW h7 (hX'.blk s H C cl fp)) (fun s H C cl fp => (snd L a hW h8 (hX'.blk s H C cl fp)).pe) (foldSet_of (bnot h6))
      rw [e2] at q
      exact PS.weak q fun D σ H w => comp_E hown w
    · cases h
  | _ => unfold chkE at h; first | (cases h; done) | (simp at h; done)
theorem rais0_S {c : Nat} {D : Ends} {σ : L2.St} {H : Hp} {E : XK} (h : tS W E (evS (W.cl k) W.F (.rais0 c)) D σ H) : E (.ref (W.ca c)) none H := by
  obtain ⟨m, ρ, st, s, r, p⟩ := h
  rw [evS] at p
  exact p none H m Ext.refl s rfl
theorem rais1_S {c : Nat} {f : Str} {e : IE} {D : Ends} {σ : L2.St} {H : Hp} {E : XK} (h : tS W E (evS (W.cl k) W.F (.rais1 c f e)) D σ H) : tMkO (W.ca c) (spI (W.ca c) f) [] (tCons (tE W E (ev (W.cl k) e)) tNil) σ H E := by
  obtain ⟨m, ρ, st, s, r, p⟩ := h
  rw [evS] at p
  refine ⟨m, ρ, st, s, r, p.sbind.imp fun d m1 st1 H1 e1 s1 p1 v rv => ⟨by simp, fun a ha => ?_⟩⟩
  refine ⟨a, v, rfl, upd_same, fun dx hdx hne => ⟨rfl, dx, [(f, v)], upd_same, by rw [upd_ne hne, upd_same], by rw [upd_ne hne] at hdx; exact hdx, ?_⟩⟩
  rw [upd_ne hne] at hdx
  have e2 : upd (del (upd (upd (upd H1 a (exo a (W.ca c) none)) dx (exd dx [(f, v)])) a (exo a (W.ca c) (some dx))) a) dx (.xd [(f, v)]) = upd H1 dx (.xd [(f, v)]) := by
    funext b
    by_cases hb : b = dx
    · rw [hb, upd_same, upd_same]
    · rw [upd_ne hb, upd_ne hb]
      by_cases ha' : b = a
      · rw [ha', del_same, ha]
      · rw [del_ne ha', upd_ne ha', upd_ne hb, upd_ne ha']
  rw [e2]
  obtain ⟨s2, e3⟩ := s1.laid hdx (.xd [(f, v)])
  exact p1 (some dx) _ m1 e3 s2 ⟨dx, v, rfl, upd_same, rv.up s1 e3⟩
theorem SOk.nox {scp : Scope} {E : XK} {X : Cx} (h : SOk W cc Ns scp k E X) : SOk W cc Ns scp k E0 X.nox :=
  ⟨⟨h.prog, h.w, h.K, h.mg, h.base, h.N, h.nd, h.sc, h.calm, h.room, passL, h.lm⟩, h.fn, h.kd, PassesOwn.never, LamX.takes0⟩
def tParE (is : List Nat) (ta : TA) : TS := match is with
  | [i, j] => tPar i j ta
  | [i, j, l] => tPar3 i j l ta
  | _ => fun _ _ _ => False
theorem par_S {is : List Nat} {es : IEs} {D : Ends} {σ : L2.St} {H : Hp} {E : XK} (h : tS W E (evS (W.cl k) W.F (.par is es)) D σ H) (hl : is.length = 2 ∨ is.length = 3) : tParE is (tA W E (evs (W.cl k) es)) D σ H := by
  obtain ⟨m, ρ, st, s, r, p⟩ := h
  rw [evS] at p
  have p := p.sbind
  match is, hl with
  | [i, j], _ =>
    refine ⟨m, ρ, st, s, r, p.imp fun ds m1 st1 H1 e1 s1 p1 vs rv => ?_⟩
    obtain ⟨h1, p1⟩ := p1.ite
    match ds, h1 with
    | [d1, d2], _ =>
      rw [Rps] at rv
      obtain ⟨v1, us, rfl, r1, rv⟩ := rv
      rw [Rps] at rv
      obtain ⟨v2, us, rfl, r2, rv⟩ := rv
      rw [Rps] at rv
      subst rv
      exact ⟨v1, v2, rfl, p1 _ _ _ Ext.refl s1 (((r.up s e1).set r1).set r2)⟩
  | [i, j, l], _ =>
    refine ⟨m, ρ, st, s, r, p.imp fun ds m1 st1 H1 e1 s1 p1 vs rv => ?_⟩
    obtain ⟨h1, p1⟩ := p1.ite
    match ds, h1 with
    | [d1, d2, d3], _ =>
      rw [Rps] at rv
      obtain ⟨v1, us, rfl, r1, rv⟩ := rv
      rw [Rps] at rv
      obtain ⟨v2, us, rfl, r2, rv⟩ := rv
      rw [Rps] at rv
      obtain ⟨v3, us, rfl, r3, rv⟩ := rv
      rw [Rps] at rv
      subst rv
      exact ⟨v1, v2, v3, rfl, p1 _ _ _ Ext.refl s1 ((((r.up s e1).set r1).set r2).set r3)⟩
theorem names_of {sc : Scope} {l : Nat} : ∀ {is : List Nat} {ts : List Expr}, parNames sc Ns l is ts = true → is.length = ts.length
  | [], [], h => rfl
  | [], e :: es, h => by simp [parNames] at h
  | i :: is, [], h => by simp [parNames] at h
  | i :: is, e :: es, h => by
    cases e with
    | Name x p =>
      simp only [parNames, Bool.and_eq_true] at h
      simp [names_of h.2]
    | _ => simp [parNames] at h
theorem star_any {vs : List Expr} (h : vs.any isStar = false) : ∀ x ∈ vs, isStar x = false := fun x hx => by simpa using List.any_eq_false.mp h x hx
theorem swap2 {x y : Str} {px py pt pt2 : Pos} {a b : Expr} {kt k2} {env : PySem.Env} (hk : env.blockKind = .function) (hx : env.scope.names.lookup x = some .local) (hy : env.scope.names.lookup y = some .local) (hl : py.line = px.line) (hne : x ≠ y)
    (h5 : [a, b].any isStar = false) (h6 : [a, b].all (foldedForSure 8) = false) (h7 : [a, b].all (constantsAlone 8) = false) : swappedStores [.Tuple [.Name x px, .Name y py] kt pt] (.Tuple [a, b] k2 pt2) env = pure (some [x, y]) := by
  unfold swappedStores
  have kx : (env.kindOf x == some NameKind.local) = true := beq_iff_eq.mpr hx
  have ky : (env.kindOf y == some NameKind.local) = true := beq_iff_eq.mpr hy
  simp only [pure_bind]
  rw [if_neg (by simp [hk]), if_neg (fun z => by
    obtain ⟨e, he, hb⟩ := List.any_eq_true.mp z
    have := star_any h5 e he
    cases e <;> first | (simp [isStar] at this; done) | (simp at hb))]
  have hne' : (y == x) = false := by rw [beq_eq_false_iff_ne]; exact fun z => hne z.symm
  have hd : ([x, y] : List Str).eraseDups.length = 2 := by simp [List.eraseDups_cons, hne']
  simp only [List.filterMap_cons, List.filterMap_nil, kx, ky, Bool.true_and, List.head?_cons, Option.map_some, Option.getD_some, Expr.pos, hl, beq_self_eq_true, if_true]
  rw [if_neg (by rw [hd]; simp), if_neg (by rw [h6]; decide), if_neg (by rw [h7]; decide)]
theorem swap3 {x y z : Str} {px py pz pt pt2 : Pos} {a b c : Expr} {kt k2} {env : PySem.Env} (hk : env.blockKind = .function) (hx : env.scope.names.lookup x = some .local) (hy : env.scope.names.lookup y = some .local) (hz : env.scope.names.lookup z = some .local) (hl : py.line = px.line) (hl2 : pz.line = px.line) (hne : x ≠ y) (hne2 : x ≠ z) (hne3 : y ≠ z)
    (h5 : [a, b, c].any isStar = false) (h6 : [a, b, c].all (foldedForSure 8) = false) (h7 : [a, b, c].all (constantsAlone 8) = false) : swappedStores [.Tuple [.Name x px, .Name y py, .Name z pz] kt pt] (.Tuple [a, b, c] k2 pt2) env = pure (some [x, y, z]) := by
  unfold swappedStores
  have kx : (env.kindOf x == some NameKind.local) = true := beq_iff_eq.mpr hx
  have ky : (env.kindOf y == some NameKind.local) = true := beq_iff_eq.mpr hy
  have kz : (env.kindOf z == some NameKind.local) = true := beq_iff_eq.mpr hz
  simp only [pure_bind]
  rw [if_neg (by simp [hk]), if_neg (fun z => by
    obtain ⟨e, he, hb⟩ := List.any_eq_true.mp z
    have := star_any h5 e he
    cases e <;> first | (simp [isStar] at this; done) | (simp at hb))]
  have n1 : (y == x) = false := by rw [beq_eq_false_iff_ne]; exact fun z => hne z.symm
  have n2 : (z == x) = false := by rw [beq_eq_false_iff_ne]; exact fun z => hne2 z.symm
  have n3 : (z == y) = false := by rw [beq_eq_false_iff_ne]; exact fun z => hne3 z.symm
  have hd : ([x, y, z] : List Str).eraseDups.length = 3 := by simp [List.eraseDups_cons, n1, n2, n3]
  simp only [List.filterMap_cons, List.filterMap_nil, kx, ky, kz, Bool.true_and, List.head?_cons, Option.map_some, Option.getD_some, Expr.pos, hl, hl2, beq_self_eq_true, if_true]
  rw [if_neg (by rw [hd]; simp), if_neg (by rw [h6]; decide), if_neg (by rw [h7]; decide)]
theorem par_cons {sc : Scope} {l i : Nat} {is : List Nat} {ts : List Expr} (h : parNames sc Ns l (i :: is) ts = true) : ∃ x p r, ts = .Name x p :: r ∧ Ns[i]? = some x ∧ sc.names.lookup x = some .local ∧ p.line = l ∧ parNames sc Ns l is r = true := by
  match ts, h with
  | .Name x p :: r, h =>
    simp only [parNames, Bool.and_eq_true, decide_eq_true_eq] at h
    exact ⟨x, p, r, rfl, h.1.1.1, h.1.1.2, h.1.2, h.2⟩
theorem par_nil {sc : Scope} {l : Nat} {ts : List Expr} (h : parNames sc Ns l [] ts = true) : ts = [] := by
  match ts, h with
  | [], _ => rfl
theorem ps_parE {scp : Scope} {E : XK} {X : Cx} {is : List Nat} {ts vs : List Expr} {kt k2} {pt pt2 pos : Pos} {ta : TA} (hX : XOk W cc Ns scp k E X) (hk : scp.kind = .function) (h1 : is.Nodup) (h2 : (decide (ts.length = 2) || decide (ts.length = 3)) = true) (h3 : vs.length = ts.length) (h4 : parNames scp Ns ((ts.head?.map (·.pos.line)).getD 0) is ts = true)
    (h5 : (!vs.any isStar) = true) (h6 : (!vs.all (foldedForSure 8)) = true) (h7 : (!vs.all (constantsAlone 8)) = true) (ha : PA X vs ta) : PS X (.Assign [.Tuple ts kt pt] (.Tuple vs k2 pt2) pos) (tParE is ta) := by
  have hb : X.env.blockKind = .function := by
    have : X.env.scope = scp := hX.sc
    unfold PySem.Env.blockKind
    rw [this, hk]; rfl
  have nd : ∀ (i j : Nat) (x y : Str), i ≠ j → Ns[i]? = some x → Ns[j]? = some y → x ≠ y := fun i j x y hij hi hj e => by
    subst e
    exact hij ((List.getElem?_inj (List.getElem?_eq_some_iff.mp hi).1 hX.nd).mp (hi.trans hj.symm))
  have hc := hX.calm
  have el := names_of h4
  rw [Bool.or_eq_true, decide_eq_true_eq, decide_eq_true_eq] at h2
  rcases h2 with h2 | h2
  · obtain ⟨i, j, rfl⟩ : ∃ i j, is = [i, j] := by
      match is, el.trans h2 with
      | [i, j], _ => exact ⟨i, j, rfl⟩
    obtain ⟨a, b, rfl⟩ : ∃ a b, vs = [a, b] := by
      match vs, h3.trans h2 with
      | [i, j], _ => exact ⟨i, j, rfl⟩
    obtain ⟨x, px, r1, rfl, e1, e2, e3, h4⟩ := par_cons h4
    obtain ⟨y, py, r2, rfl, f1, f2, f3, h4⟩ := par_cons h4
    obtain rfl := par_nil h4
    simp at h1
    have ne := nd i j x y h1 e1 f1
    rw [← hX.sc] at e2 f2
    rw [← hX.N] at e1 f1
    exact ps_par hc (by rw [hX.N]; exact hX.nd) e1 f1 h1 e2 f2 ha (swap2 hb e2 f2 f3 ne (bnot h5) (bnot h6) (bnot h7)) (by unfold swapsWithSole; rfl)
  · obtain ⟨i, j, l, rfl⟩ : ∃ i j l, is = [i, j, l] := by
      match is, el.trans h2 with
      | [i, j, l], _ => exact ⟨i, j, l, rfl⟩
    obtain ⟨a, b, c, rfl⟩ : ∃ a b c, vs = [a, b, c] := by
      match vs, h3.trans h2 with
      | [i, j, l], _ => exact ⟨i, j, l, rfl⟩
    obtain ⟨x, px, r1, rfl, e1, e2, e3, h4⟩ := par_cons h4
    obtain ⟨y, py, r2, rfl, f1, f2, f3, h4⟩ := par_cons h4
    obtain ⟨z, pz, r3, rfl, g1, g2, g3, h4⟩ := par_cons h4
    obtain rfl := par_nil h4
    simp at h1
    obtain ⟨⟨n1, n2⟩, n3⟩ := h1
    have ne := nd i j x y n1 e1 f1
    have ne2 := nd i l x z n2 e1 g1
    have ne3 := nd j l y z n3 f1 g1
    rw [← hX.sc] at e2 f2 g2
    rw [← hX.N] at e1 f1 g1
    exact ps_par3 hc (by rw [hX.N]; exact hX.nd) e1 f1 g1 n1 n2 n3 e2 f2 g2 ha (swap3 hb e2 f2 g2 f3 g3 ne ne2 ne3 (bnot h5) (bnot h6) (bnot h7)) (by unfold swapsWithSole; rfl)
mutual
/-- THE RULE for statements -/
theorem sndS (hW : WOk W cc) (L : Lv W k) : ∀ (a : IS) {scp : Scope} {E : XK} {X : Cx} {s : Stmt}, chkS cc Ns scp a s = true → SOk W cc Ns scp k E X → PS X s (tS W E (evS (W.cl k) W.F a))
  | .asg t e, scp, E, X, s, h, hX => by
    unfold chkS at h
    split at h
    · rename_i tg v pos
      obtain ⟨h1, h4⟩ := bex h
      obtain ⟨h1, h3⟩ := bex h1
      obtain ⟨h1, h2⟩ := bex h1
      have plain : isComp v = false → PS X (.Assign [tg] v pos) (tS W E (evS (W.cl k) W.F (.asg t e))) := fun hv => by
        have z := pg_IT hX.t h3
        rw [hX.K] at z
        have hl : ∀ es p, tg ≠ .List es p := fun es p q => by
          subst q
          unfold chkT at h3
          cases t <;> first | (cases h3; done) | (unfold tgB at h3; cases h3; done)
        have h1' : (assignEach [tg] X.env).map (·.2) = [assign tg X.env] := by
          cases tg <;> first | rfl | (cases t <;> (unfold chkT at h3; first | (cases h3; done) | (unfold tgB at h3; cases h3; done)))
        have h1sw : swappedStores [tg] v X.env = pure none := by
          rw [Bool.or_eq_true] at h1
          rcases h1 with h1 | h1
          · exact swap_none (bnot h1) hl
          · exact swap_noloc (by rw [hX.toXOk.sc]; exact h1)
        exact PS.weak (ps_asg (snd L e hW h4 hX.toXOk).pe z (sw_plain hv) h1sw h1') fun D σ H w => asg_S w
      unfold setComp at h2
      split at h2
      · obtain ⟨k1, k3⟩ := bex h2
        obtain ⟨k1, k2⟩ := bex k1
        cases t with
        | name i =>
          unfold chkT tgB at h3
          obtain ⟨l1, l2⟩ := bex h3
          exact PS.weak (set_comp hW L hX h4 (of_decide_eq_true l1) (of_decide_eq_true k1) k2 (bnot k3)) fun D σ H w => asg_S w
        | tup is => cases h3
      · exact plain (bnot h2)
    · cases h
  | .par is es, scp, E, X, s, h, hX => by
    unfold chkS at h
    split at h
    · obtain ⟨h1, h8⟩ := bex h
      obtain ⟨h1, h7⟩ := bex h1
      obtain ⟨h1, h6⟩ := bex h1
      obtain ⟨h1, h5⟩ := bex h1
      obtain ⟨h1, h4⟩ := bex h1
      obtain ⟨h1, h3⟩ := bex h1
      obtain ⟨h1, h2⟩ := bex h1
      exact PS.weak (ps_parE hX.toXOk hX.kd (of_decide_eq_true h1) h2 (of_decide_eq_true h3) h4 h5 h6 h7 (sndEs L es hW h8 hX.toXOk)) fun D σ H w => par_S w (by
        have e := names_of h4
        rw [Bool.or_eq_true, decide_eq_true_eq, decide_eq_true_eq] at h2
        rw [e]; exact h2)
    · cases h
  | .setf a f e, scp, E, X, s, h, hX => by
    unfold chkS at h
    split at h
    · obtain ⟨h1, h4⟩ := bex h
      obtain ⟨h1, h3⟩ := bex h1
      obtain ⟨h1, h2⟩ := bex h1
      have := of_decide_eq_true h1; subst this
      refine PS.weak (ps_fld (snd L a hW h3 hX.toXOk).pe (snd L e hW h4 hX.toXOk).pe sw_attr) fun D σ H w => ?_
      rw [hX.K]
      exact setf_S hW (of_decide_eq_true h2) w
    · cases h
  | .seti a i e, scp, E, X, s, h, hX => by
    unfold chkS at h
    split at h
    · obtain ⟨h1, h4⟩ := bex h
      obtain ⟨h1, h3⟩ := bex h1
      obtain ⟨h1, h2⟩ := bex h1
      have hs := bnot h1
      exact PS.weak (ps_asg (snd L e hW h4 hX.toXOk).pe (pg_sub (snd L a hW h2 hX.toXOk).pe (snd L i hW h3 hX.toXOk).pe (set_A hX.prog hX.w hX.K (units100 hX.toXOk)) (sub_store hs)) (by unfold swapsWithSole; exact sw_sub) (by rfl) (by rfl)) fun D σ H w => seti_S w
    · cases h
  | .expr e, scp, E, X, s, h, hX => by
    unfold chkS at h
    split at h
    · obtain ⟨h1, h2⟩ := bex h
      exact PS.weak (ps_expr (snd L e hW h2 hX.toXOk).pe (sw_plain (bnot h1))) fun D σ H w => expr_S w
    · cases h
  | .ret e, scp, E, X, s, h, hX => by
    unfold chkS at h
    split at h
    · exact PS.weak (ps_ret (snd L e hW h hX.toXOk).pe) fun D σ H w => ret_S w
    · cases h
  | .retN, scp, E, X, s, h, hX => by
    unfold chkS at h
    split at h
    · refine PS.weak ps_retN fun D σ H w => ?_
      obtain ⟨m, ρ, st, s, r, p⟩ := w
      rw [evS] at p
      exact p _ H m Ext.refl s (by rw [Rp])
    · cases h
  | .pass, scp, E, X, s, h, hX => by
    unfold chkS at h
    split at h
    · refine PS.weak ps_pass fun D σ H w => ?_
      obtain ⟨m, ρ, st, s, r, p⟩ := w
      rw [evS] at p
      exact p σ H m Ext.refl s r
    · cases h
  | .brk, scp, E, X, s, h, hX => by
    unfold chkS at h
    split at h
    · refine PS.weak ps_break fun D σ H w => ?_
      obtain ⟨m, ρ, st, s, r, p⟩ := w
      rw [evS] at p
      exact p σ H m Ext.refl s r
    · cases h
  | .cont, scp, E, X, s, h, hX => by
    unfold chkS at h
    split at h
    · refine PS.weak ps_continue fun D σ H w => ?_
      obtain ⟨m, ρ, st, s, r, p⟩ := w
      rw [evS] at p
      exact p σ H m Ext.refl s r
    · cases h
  | .ite c a b, scp, E, X, s, h, hX => by
    unfold chkS at h
    split at h
    · obtain ⟨h1, h3⟩ := bex h
      obtain ⟨h1, h2⟩ := bex h1
      exact PS.weak (ps_if (snd L c hW h1 hX.toXOk).pt (sndSs hW L a h2 hX) (sndSs hW L b h3 hX)) fun D σ H w => ite_S w
    · cases h
  | .whl c b, scp, E, X, s, h, hX => by
    unfold chkS at h
    split at h
    · obtain ⟨h1, h2⟩ := bex h
      exact PS.weak (ps_while hX.own (snd L c hW h1 hX.toXOk).pt (sndSs hW L b h2 hX)) fun D σ H w => whl_S w
    · cases h
  | .for_ t it b, scp, E, X, s, h, hX => by
    unfold chkS at h
    split at h
    · obtain ⟨h1, h4⟩ := bex h
      obtain ⟨h1, h3⟩ := bex h1
      obtain ⟨h1, h2⟩ := bex h1
      obtain ⟨h1, htg⟩ := bex h1
      have z := pg_IT hX.t h1
      rw [hX.K] at z
      exact PS.weak (ps_for hX.own hX.calm (sndI L it hW h2 htg hX.toXOk) z (sndSs hW L b h4 hX) (foldSet_of (bnot h3))) fun D σ H w => for_S w
    · cases h
  | .tryN b, scp, E, X, s, h, hX => by
    unfold chkS at h
    split at h
    · exact PS.weak (ps_try_thru0 (sndSs hW L b h hX.nox)) fun D σ H w => tryN_S w
    · cases h
  | .rais0 c, scp, E, X, s, h, hX => by
    unfold chkS at h
    split at h
    · obtain ⟨h1, h2⟩ := bex h
      obtain ⟨g1, g2⟩ := gl_of h2 hX.sc
      obtain ⟨k1, k2⟩ := hW.x0 _ c (of_decide_eq_true h1)
      exact PS.weak (ps_raise hX.calm hX.tk (pmk_own PySem.F.excBase_ValueError (by rw [hX.K]; exact k2.ex) (by rw [hX.mg]; exact k1) (by rw [hX.K]; exact k2.kp) (raises_own (by rw [hX.K]; exact k2.sb) (by rw [hX.K]; exact k2.ty)) g1 g2)) fun D σ H w => rais0_S w
    · cases h
  | .rais1 c f a, scp, E, X, s, h, hX => by
    unfold chkS at h
    split at h
    · obtain ⟨h1, h4⟩ := bex h
      obtain ⟨h1, h3⟩ := bex h1
      obtain ⟨h1, h2⟩ := bex h1
      obtain ⟨g1, g2⟩ := gl_of h2 hX.sc
      obtain ⟨k1, k2⟩ := hW.x1 _ c f (of_decide_eq_true h1)
      obtain ⟨fI, fd, ps, i1, i2, i3, i4⟩ := k2.ex
      have F := FnOk.at hX.toXOk i4
      have he := (snd L a hW h4 hX.toXOk).pe
      exact PS.weak (ps_raise hX.calm hX.tk (pmk_oex (by rw [hX.K]; exact k2.oc) (by rw [hX.K]; exact i1) (by rw [hX.K]; exact i2) F (hX.room.mono (by omega)) (by rw [hX.K]; exact i3) .nil passL g1 (by rw [hX.mg]; exact k1) (pa_cons he pa_nil (star_cons (bnot h3))) g2 (star_cons (bnot h3)) rfl)) fun D σ H w => rais1_S w
    · cases h
  | .never, scp, E, X, s, h, hX => by
    refine PS.weak ps_never fun D σ H w => ?_
    obtain ⟨m, ρ, st, s, r, p⟩ := w
    rw [evS] at p
    exact p
theorem sndSs (hW : WOk W cc) (L : Lv W k) : ∀ (a : ISs) {scp : Scope} {E : XK} {X : Cx} {s : List Stmt}, chkSs cc Ns scp a s = true → SOk W cc Ns scp k E X → PSs X s (tS W E (evSs (W.cl k) W.F a))
  | .nil, scp, E, X, s, h, hX => by
    unfold chkSs at h
    split at h
    · refine PSs.weak pss_nil fun D σ H w => ?_
      obtain ⟨m, ρ, st, s, r, p⟩ := w
      rw [evSs] at p
      exact p σ H m Ext.refl s r
    · cases h
  | .cons a r, scp, E, X, s, h, hX => by
    unfold chkSs at h
    split at h
    · obtain ⟨h1, h2⟩ := bex h
      refine PSs.weak (pss_cons (sndS hW L a h1 hX) (sndSs hW L r h2 hX)) fun D σ H w => ?_
      obtain ⟨m, ρ, st, s, rr, p⟩ := w
      rw [evSs] at p
      refine ⟨m, ρ, st, s, rr, ?_⟩
      have q := p.then
      -- what stands behind is the rest's reading
      cases hr : evS (W.cl k) W.F a ρ st with
      | ok f ρ1 st1 =>
        rw [hr] at q
        cases f with
        | nx =>
          intro σ' H' m' e' s' r'
          obtain ⟨m2, ρ2, st2, e2, s2, r2, p2⟩ := q σ' H' m' e' s' r'
          exact ⟨m2, ρ2, st2, s2, r2, p2⟩
        | bk => exact q
        | ct => exact q
        | rt d => exact q
      | exc x ρ1 st1 => rw [hr] at q; exact q
      | stuck => rw [hr] at q; exact q
    · cases h
end

/-! ### what a call forgets -/
mutual
theorem Rp.cl {K : PySem.W.Frag} {H : Hp} {m : List Addr} : ∀ {d : D} {v : V}, Rp K H m d v → clD m.length d = true
  | .non, v, h => rfl
  | .bl _, v, h => rfl
  | .int _, v, h => rfl
  | .str _, v, h => rfl
  | .tup ds, v, h => by
    obtain ⟨a, vs, _, _, h⟩ := h.tup_ref
    rw [clD]; exact Rps.cl h
  | .loc n, v, h => by
    rw [Rp] at h
    obtain ⟨a, h, _⟩ := h
    rw [clD]; exact decide_eq_true (List.getElem?_eq_some_iff.mp h).1
  | .fl ds, v, h => by
    rw [Rp] at h
    obtain ⟨a, vs, _, _, h⟩ := h
    rw [clD]; exact Rps.cl h
theorem Rps.cl {K : PySem.W.Frag} {H : Hp} {m : List Addr} : ∀ {d : List D} {v : List V}, Rps K H m d v → clDs m.length d = true
  | [], v, h => rfl
  | d :: ds, v, h => by
    rw [Rps] at h
    obtain ⟨u, us, _, h1, h2⟩ := h
    rw [clDs, Rp.cl h1, Rps.cl h2]; rfl
end
mutual
theorem Rp.down {K : PySem.W.Frag} {H : Hp} {m l : List Addr} : ∀ {d : D} {v : V}, clD m.length d = true → Rp K H (m ++ l) d v → Rp K H m d v
  | .non, v, _, h => by rw [Rp] at h ⊢; exact h
  | .bl _, v, _, h => by rw [Rp] at h ⊢; exact h
  | .int _, v, _, h => by rw [Rp] at h ⊢; exact h
  | .str _, v, _, h => by rw [Rp] at h ⊢; exact h
  | .tup ds, v, c, h => by
    rw [Rp] at h ⊢
    rw [clD] at c
    obtain ⟨a, vs, e, h1, h2⟩ := h
    exact ⟨a, vs, e, h1, Rps.down c h2⟩
  | .loc n, v, c, h => by
    rw [Rp] at h ⊢
    rw [clD, decide_eq_true_eq] at c
    obtain ⟨a, h1, e⟩ := h
    rw [List.getElem?_append_left c] at h1
    exact ⟨a, h1, e⟩
  | .fl ds, v, c, h => by
    rw [Rp] at h ⊢
    rw [clD] at c
    obtain ⟨a, vs, e, h1, h2⟩ := h
    exact ⟨a, vs, e, h1, Rps.down c h2⟩
theorem Rps.down {K : PySem.W.Frag} {H : Hp} {m l : List Addr} : ∀ {d : List D} {v : List V}, clDs m.length d = true → Rps K H (m ++ l) d v → Rps K H m d v
  | [], v, _, h => by rw [Rps] at h ⊢; exact h
  | d :: ds, v, c, h => by
    rw [clDs, Bool.and_eq_true] at c
    rw [Rps] at h ⊢
    obtain ⟨u, us, e, h1, h2⟩ := h
    exact ⟨u, us, e, Rp.down c.1 h1, Rps.down c.2 h2⟩
end
mutual
theorem clD_mono {n n' : Nat} (h : n ≤ n') : ∀ {d : D}, clD n d = true → clD n' d = true
  | .non, _ => rfl
  | .bl _, _ => rfl
  | .int _, _ => rfl
  | .str _, _ => rfl
  | .tup ds, c => by rw [clD] at c ⊢; exact clDs_mono h c
  | .loc k, c => by rw [clD, decide_eq_true_eq] at c ⊢; omega
  | .fl ds, c => by rw [clD] at c ⊢; exact clDs_mono h c
theorem clDs_mono {n n' : Nat} (h : n ≤ n') : ∀ {d : List D}, clDs n d = true → clDs n' d = true
  | [], _ => rfl
  | d :: ds, c => by
    rw [clDs, Bool.and_eq_true] at c ⊢
    exact ⟨clD_mono h c.1, clDs_mono h c.2⟩
end
theorem Dent.down {H : Hp} {m l : List Addr} : ∀ {kvs : List (D × D)} {xs : NdX}, (clDs m.length (kvs.map (·.1)) && clDs m.length (kvs.map (·.2))) = true → Dent W.K H (m ++ l) kvs xs → Dent W.K H m kvs xs
  | [], xs, _, h => h
  | (k, d) :: r, xs, c, h => by
    simp only [List.map_cons, clDs, Bool.and_eq_true] at c
    obtain ⟨nk, ka, u, v, xs', e, h2, h3, h4, h5, h6, h7⟩ := h
    exact ⟨nk, ka, u, v, xs', e, h2, h3, Rp.down c.1.1 h4, h5, Rp.down c.2.1 h6, Dent.down (by rw [c.1.2, c.2.2]; rfl) h7⟩
theorem Dkt.down {H : Hp} {m l : List Addr} : ∀ {kvs : List (D × D)} {xs : List (Key × V)}, (clDs m.length (kvs.map (·.1)) && clDs m.length (kvs.map (·.2))) = true → Dkt W.K H (m ++ l) kvs xs → Dkt W.K H m kvs xs
  | [], xs, _, h => h
  | (k, d) :: r, xs, c, h => by
    simp only [List.map_cons, clDs, Bool.and_eq_true] at c
    obtain ⟨ky, v, xs', e, h2, h6, h7⟩ := h
    exact ⟨ky, v, xs', e, h2, Rp.down c.2.1 h6, Dkt.down (by rw [c.1.2, c.2.2]; rfl) h7⟩
theorem Dent.cl {H : Hp} {m : List Addr} : ∀ {kvs : List (D × D)} {xs : NdX}, Dent W.K H m kvs xs → (clDs m.length (kvs.map (·.1)) && clDs m.length (kvs.map (·.2))) = true
  | [], xs, h => rfl
  | (k, d) :: r, xs, h => by
    obtain ⟨nk, ka, u, v, xs', e, h2, h3, h4, h5, h6, h7⟩ := h
    have ih := Dent.cl h7
    rw [Bool.and_eq_true] at ih
    simp only [List.map_cons, clDs, Bool.and_eq_true]
    exact ⟨⟨Rp.cl h4, ih.1⟩, Rp.cl h6, ih.2⟩
theorem Dkt.cl {H : Hp} {m : List Addr} : ∀ {kvs : List (D × D)} {xs : List (Key × V)}, Dkt W.K H m kvs xs → (clDs m.length (kvs.map (·.1)) && clDs m.length (kvs.map (·.2))) = true
  | [], xs, h => rfl
  | (k, d) :: r, xs, h => by
    obtain ⟨ky, v, xs', e, h2, h6, h7⟩ := h
    have ih := Dkt.cl h7
    rw [Bool.and_eq_true] at ih
    simp only [List.map_cons, clDs, Bool.and_eq_true]
    refine ⟨⟨?_, ih.1⟩, Rp.cl h6, ih.2⟩
    cases k <;> simp [kyD] at h2 <;> rfl
section
variable {K : PySem.W.Frag} {H : Hp} {m1 m2 : List Addr} {g : Nat → Nat} {p : Nat → Bool}
mutual
theorem Rp.rn (hg : ∀ k a, p k = true → m1[k]? = some a → m2[g k]? = some a) : ∀ {d : D} {v : V}, (locsD d).all p = true → Rp K H m1 d v → Rp K H m2 (rnD g d) v
  | .non, v, _, h => by rw [rnD]; rw [Rp] at h ⊢; exact h
  | .bl _, v, _, h => by rw [rnD]; rw [Rp] at h ⊢; exact h
  | .int _, v, _, h => by rw [rnD]; rw [Rp] at h ⊢; exact h
  | .str _, v, _, h => by rw [rnD]; rw [Rp] at h ⊢; exact h
  | .tup ds, v, c, h => by
    rw [locsD] at c
    rw [rnD]
    rw [Rp] at h ⊢
    obtain ⟨a, vs, e, h1, h2⟩ := h
    exact ⟨a, vs, e, h1, Rps.rn hg c h2⟩
  | .loc n, v, c, h => by
    rw [rnD]
    rw [Rp] at h ⊢
    obtain ⟨a, h1, e⟩ := h
    exact ⟨a, hg n a (by simpa [locsD] using c) h1, e⟩
  | .fl ds, v, c, h => by
    rw [locsD] at c
    rw [rnD]
    rw [Rp] at h ⊢
    obtain ⟨a, vs, e, h1, h2⟩ := h
    exact ⟨a, vs, e, h1, Rps.rn hg c h2⟩
theorem Rps.rn (hg : ∀ k a, p k = true → m1[k]? = some a → m2[g k]? = some a) : ∀ {d : List D} {v : List V}, (locsDs d).all p = true → Rps K H m1 d v → Rps K H m2 (rnDs g d) v
  | [], v, _, h => by rw [rnDs]; rw [Rps] at h ⊢; exact h
  | d :: ds, v, c, h => by
    rw [locsDs, List.all_append, Bool.and_eq_true] at c
    rw [rnDs]
    rw [Rps] at h ⊢
    obtain ⟨u, us, e, h1, h2⟩ := h
    exact ⟨u, us, e, Rp.rn hg c.1 h1, Rps.rn hg c.2 h2⟩
end
mutual
theorem rnD_free : ∀ {d : D}, locsD d = [] → rnD g d = d
  | .non, _ => rfl
  | .bl _, _ => rfl
  | .int _, _ => rfl
  | .str _, _ => rfl
  | .tup ds, c => by rw [locsD] at c; rw [rnD, rnDs_free c]
  | .loc k, c => by simp [locsD] at c
  | .fl ds, c => by rw [locsD] at c; rw [rnD, rnDs_free c]
theorem rnDs_free : ∀ {d : List D}, locsDs d = [] → rnDs g d = d
  | [], _ => rfl
  | d :: ds, c => by
    rw [locsDs, List.append_eq_nil_iff] at c
    rw [rnDs, rnD_free c.1, rnDs_free c.2]
end
mutual
theorem nkD_locs : ∀ {d : D} {k : NestedKey}, nkD d = some k → locsD d = []
  | .non, _, _ => rfl
  | .int _, _, _ => rfl
  | .str _, _, _ => rfl
  | .tup ds, k, h => by
    rw [nkD] at h
    rw [locsD]
    split at h
    · rename_i ks e; exact nkDs_locs e
    · cases h
  | .bl _, _, h => by simp [nkD] at h
  | .loc _, _, h => by simp [nkD] at h
  | .fl _, _, h => by simp [nkD] at h
theorem nkDs_locs : ∀ {d : List D} {k : List NestedKey}, nkDs d = some k → locsDs d = []
  | [], _, _ => rfl
  | d :: ds, k, h => by
    rw [nkDs] at h
    split at h
    · rename_i k ks e1 e2
      rw [locsDs, nkD_locs e1, nkDs_locs e2]; rfl
    · cases h
end
theorem Rp.free {d : D} {v : V} (c : locsD d = []) (h : Rp K H m1 d v) : Rp K H m2 d v := by
  have := Rp.rn (g := id) (p := fun _ => false) (m1 := m1) (m2 := m2) (fun k a z => by cases z) (by rw [c]; rfl) h
  rwa [rnD_free c] at this
end
theorem rnDs_map (g : Nat → Nat) : ∀ ds : List D, rnDs g ds = ds.map (rnD g)
  | [] => rfl
  | d :: ds => by rw [rnDs, rnDs_map g ds]; rfl
theorem Dent.rn {H : Hp} {m1 m2 : List Addr} {g : Nat → Nat} {p : Nat → Bool} (hg : ∀ k a, p k = true → m1[k]? = some a → m2[g k]? = some a) : ∀ {kvs : List (D × D)} {xs : NdX}, (locsDs (kvs.map (·.2))).all p = true → Dent W.K H m1 kvs xs → Dent W.K H m2 (kvs.map fun q => (q.1, rnD g q.2)) xs
  | [], xs, _, h => h
  | (k, d) :: r, xs, c, h => by
    obtain ⟨nk, ka, u, v, xs', e, h2, h3, h4, h5, h6, h7⟩ := h
    rw [List.map_cons, locsDs, List.all_append, Bool.and_eq_true] at c
    exact ⟨nk, ka, u, v, xs', e, h2, h3, h4.free (nkD_locs h2), h5, h6.rn hg c.1, Dent.rn hg c.2 h7⟩
theorem Dkt.rn {H : Hp} {m1 m2 : List Addr} {g : Nat → Nat} {p : Nat → Bool} (hg : ∀ k a, p k = true → m1[k]? = some a → m2[g k]? = some a) : ∀ {kvs : List (D × D)} {xs : List (Key × V)}, (locsDs (kvs.map (·.2))).all p = true → Dkt W.K H m1 kvs xs → Dkt W.K H m2 (kvs.map fun q => (q.1, rnD g q.2)) xs
  | [], xs, _, h => h
  | (k, d) :: r, xs, c, h => by
    obtain ⟨ky, v, xs', e, h2, h6, h7⟩ := h
    rw [List.map_cons, locsDs, List.all_append, Bool.and_eq_true] at c
    exact ⟨ky, v, xs', e, h2, h6.rn hg c.1, Dkt.rn hg c.2 h7⟩
theorem CellOk.rn {H : Hp} {m1 m2 : List Addr} {g : Nat → Nat} {p : Nat → Bool} (hg : ∀ k a, p k = true → m1[k]? = some a → m2[g k]? = some a) {a : Addr} {c : Cell} (hc : (locsC c).all p = true) (h : CellOk W H m1 a c) : CellOk W H m2 a (rnC g c) := by
  cases c with
  | lst ds => obtain ⟨vs, h1, h2⟩ := h; exact ⟨vs, h1, h2.rn hg hc⟩
  | ins c fs =>
    obtain ⟨dx, gs, h0, h1, h2, h3⟩ := h
    refine ⟨dx, gs, h0, h1, ?_, ?_⟩
    · rw [h2, List.map_map]; rfl
    · have := h3.rn hg hc
      rw [rnDs_map, List.map_map] at this
      rw [List.map_map]
      exact this
  | dct kvs => obtain ⟨xs, h1, h2⟩ := h; exact ⟨xs, h1, h2.rn hg hc⟩
  | dck kvs => obtain ⟨xs, h1, h2⟩ := h; exact ⟨xs, h1, h2.rn hg hc⟩
/-- what stood, behind a call -/
theorem old_cells {m l : List Addr} {H H' : Hp} {st0 st : Sto} (s0 : Sim W H m st0) (s' : Sim W H' (m ++ l) st) (hk : OldOk st0 st) : st0.length ≤ st.length ∧ ∀ (i : Nat) (c : Cell) (a : Addr), st[i]? = some c → m[i]? = some a → CellOk W H' m a c := by
  have hle : st0.length ≤ st.length := by
    have h1 := s'.len
    rw [List.length_append, s0.len] at h1
    omega
  have dn : ∀ {ds : List D} {vs : List V}, clDs m.length ds = true → Rps W.K H' (m ++ l) ds vs → Rps W.K H' m ds vs := fun c r => Rps.down c r
  have sc : ∀ {c : Cell} {a : Addr}, clC m.length c = true → CellOk W H' (m ++ l) a c → CellOk W H' m a c := fun {c a} hc q => by
    cases c with
    | lst ds =>
      obtain ⟨vs, h1, h2⟩ := q
      exact ⟨vs, h1, dn hc h2⟩
    | ins c fs =>
      obtain ⟨dx, gs, h0, h1, h2, h3⟩ := q
      exact ⟨dx, gs, h0, h1, h2, dn hc h3⟩
    | dct kvs =>
      obtain ⟨xs, h1, h2⟩ := q
      exact ⟨xs, h1, h2.down hc⟩
    | dck kvs =>
      obtain ⟨xs, h1, h2⟩ := q
      exact ⟨xs, h1, h2.down hc⟩
  have cl0 : ∀ {c : Cell} {a : Addr}, CellOk W H m a c → clC m.length c = true := fun {c a} q => by
    cases c with
    | lst ds => obtain ⟨vs, _, h2⟩ := q; exact Rps.cl h2
    | ins c fs => obtain ⟨dx, gs, _, _, _, h3⟩ := q; exact Rps.cl h3
    | dct kvs => obtain ⟨xs, h1, h2⟩ := q; exact h2.cl
    | dck kvs => obtain ⟨xs, h1, h2⟩ := q; exact h2.cl
  refine ⟨hle, fun i c a h1 h2 => ?_⟩
  have hi : i < st0.length := by
    have := (List.getElem?_eq_some_iff.mp h2).1
    rw [s0.len] at this; exact this
  have q := s'.ok i c a h1 (by rw [List.getElem?_append_left (by rw [s0.len]; exact hi)]; exact h2)
  refine sc ?_ q
  rcases hk i hi with z | z
  · rw [h1] at z
    exact cl0 (s0.ok i c a z.symm h2)
  · rw [h1] at z
    have z' : clC st0.length c = true := by simpa using z
    rw [s0.len]; exact z'
theorem Ext.cut {m l l' : List Addr} {H H' : Hp} (e : Ext m (m ++ l) H H') (h : ∀ a ∈ l', a ∈ l) : Ext m (m ++ l') H H' := ⟨⟨l', rfl⟩, fun a o ha nt hn => by
  obtain ⟨h1, h2⟩ := e.keep a o ha nt hn
  refine ⟨h1, fun z => h2 ?_⟩
  rcases List.mem_append.mp z with z | z
  · exact List.mem_append.mpr (.inl z)
  · exact List.mem_append.mpr (.inr (h a z))⟩
theorem CellOk.wide {H : Hp} {m l : List Addr} {a : Addr} {c : Cell} (h : CellOk W H m a c) : CellOk W H (m ++ l) a c := by
  have hm : ∀ (n : Nat) (a : Addr), m[n]? = some a → (m ++ l)[n]? = some a := fun n a z => by
    rw [List.getElem?_append_left (List.getElem?_eq_some_iff.mp z).1]; exact z
  cases c with
  | lst ds => obtain ⟨us, h3, h4⟩ := h; exact ⟨us, h3, h4.mono (fun _ _ z => z) (fun _ _ z => z) hm⟩
  | ins c fs => obtain ⟨dx, gs, hc, h3, h4⟩ := h; exact ⟨dx, gs, hc, h3, h4.1, h4.2.mono (fun _ _ z => z) (fun _ _ z => z) hm⟩
  | dct kvs => obtain ⟨xs, h3, h4⟩ := h; exact ⟨xs, h3, h4.mono (fun _ _ z => z) (fun _ _ z => z) hm⟩
  | dck kvs => obtain ⟨xs, h3, h4⟩ := h; exact ⟨xs, h3, h4.mono (fun _ _ z => z) (fun _ _ z => z) hm⟩
theorem finish_ok {E : XK} {m : List Addr} {H : Hp} {st0 : Sto} {r : R D} {Q : VK} (s0 : Sim W H m st0) (h : Pg W E m H (finish st0 r) (kD W Q)) : Pg W E m H r (kD W Q) := by
  cases r with
  | stuck => exact h
  | exc e st =>
    unfold finish at h
    dsimp only at h
    by_cases hc : exC e = true ∧ OldOk st0 st
    · rw [if_pos hc] at h
      obtain ⟨hd, hk⟩ := hc
      intro dx H' m' ee s' hx
      obtain ⟨l, rfl⟩ := ee.pre
      obtain ⟨hle, old⟩ := old_cells s0 s' hk
      have s2 : Sim W H' m (st.take st0.length) := by
        refine ⟨by rw [List.length_take, s0.len]; omega, s0.nd, fun i c a h1 h2 => ?_, s'.tb.to (fun b o h hn _ => ⟨h, fun z => hn (List.mem_append_left _ z)⟩) s'.tm⟩
        have hi : i < st0.length := by
          have := (List.getElem?_eq_some_iff.mp h2).1
          rw [s0.len] at this; exact this
        rw [List.getElem?_take_of_lt hi] at h1
        exact old i c a h1 h2
      have e2 := Ext.cut (l' := []) ee (by simp)
      rw [List.append_nil] at e2
      refine h dx H' m e2 s2 ?_
      unfold ExR at hx ⊢
      unfold exC at hd
      cases hf : e.f with
      | none => rw [hf] at hx; exact hx
      | some fd =>
        obtain ⟨f, d⟩ := fd
        rw [hf] at hx hd
        obtain ⟨a, v, h1, h2, h3⟩ := hx
        exact ⟨a, v, h1, h2, Rp.down (clD_mono (Nat.zero_le _) hd) h3⟩
    · rw [if_neg hc] at h; exact h
  | ok d st =>
    unfold finish at h
    dsimp only at h
    by_cases hk : OldOk st0 st
    · rw [if_pos hk] at h
      generalize reach st0.length st 40 (locsD d) [] = L at h
      unfold gcD at h
      by_cases hc : GcOk st0.length L d st
      · rw [if_pos hc] at h
        obtain ⟨c1, c2, c3⟩ := hc
        intro H' m' e s' v rv
        obtain ⟨l, rfl⟩ := e.pre
        obtain ⟨hle, old⟩ := old_cells s0 s' hk
        have hm0 : m.length = st0.length := s0.len
        have hm1 : (m ++ l).length = st.length := s'.len
        let l' : List Addr := L.map fun k => ((m ++ l)[k]?).getD 0
        have inL : ∀ k ∈ L, ∃ a c, (m ++ l)[k]? = some a ∧ a ∈ l ∧ st[k]? = some c ∧ (locsC c).all (okN st0.length L) = true := fun k hk => by
          obtain ⟨h1, h2⟩ := c2 k hk
          cases hs : st[k]? with
          | none => rw [hs] at h2; cases h2
          | some c =>
            rw [hs] at h2
            have hl : k < (m ++ l).length := by rw [hm1]; exact (List.getElem?_eq_some_iff.mp hs).1
            refine ⟨(m ++ l)[k], c, List.getElem?_eq_getElem hl, ?_, rfl, by simpa using h2⟩
            rw [List.getElem_append_right (by omega)]
            exact List.getElem_mem _
        have hsub : ∀ b ∈ m ++ l', b ∈ m ++ l := fun b z => by
          rcases List.mem_append.mp z with z | z
          · exact List.mem_append_left _ z
          · obtain ⟨k, hk, rfl⟩ := List.mem_map.mp z
            obtain ⟨a, c, h1, h2, _⟩ := inL k hk
            rw [h1]; exact List.mem_append_right _ h2
        have e2 : Ext m (m ++ l') H H' := Ext.cut e fun a ha => by
          obtain ⟨k, hk, rfl⟩ := List.mem_map.mp ha
          obtain ⟨a, c, h1, h2, _⟩ := inL k hk
          rw [h1]; exact h2
        have hg : ∀ k a, okN st0.length L k = true → (m ++ l)[k]? = some a → (m ++ l')[newN st0.length L k]? = some a := fun k a hok hka => by
          unfold newN
          by_cases hlt : k < st0.length
          · rw [if_pos hlt, List.getElem?_append_left (by omega)]
            rw [List.getElem?_append_left (by omega)] at hka
            exact hka
          · rw [if_neg hlt]
            have hkL : k ∈ L := by
              unfold okN at hok
              rw [Bool.or_eq_true, decide_eq_true_eq, decide_eq_true_eq] at hok
              exact hok.resolve_left hlt
            rw [List.getElem?_append_right (by omega), hm0, Nat.add_sub_cancel_left, List.getElem?_map, List.getElem?_eq_getElem (List.idxOf_lt_length_iff.mpr hkL), List.getElem_idxOf]
            rw [Option.map_some, hka]; rfl
        have s2 : Sim W H' (m ++ l') (st.take st0.length ++ L.map (pickC st0.length L st)) := by
          refine ⟨by simp [l', hm0]; omega, ?_, fun i c a h1 h2 => ?_, s'.tb.to (fun b o h hn _ => ⟨h, fun z => hn (hsub b z)⟩) s'.tm⟩
          · have nd := s'.nd
            rw [List.nodup_append] at nd ⊢
            refine ⟨nd.1, ?_, fun a ha b hb => ?_⟩
            · refine List.pairwise_map.mpr (c1.imp_of_mem fun {x y} hx hy hne hxy => hne ?_)
              obtain ⟨a, _, h1, _⟩ := inL x hx
              obtain ⟨b, _, g1, _⟩ := inL y hy
              rw [h1, g1] at hxy
              have hab : a = b := hxy
              subst hab
              obtain ⟨p1, p2⟩ := List.getElem?_eq_some_iff.mp h1
              obtain ⟨q1, q2⟩ := List.getElem?_eq_some_iff.mp g1
              exact (List.getElem_inj s'.nd).mp (p2.trans q2.symm)
            · obtain ⟨k, hk, rfl⟩ := List.mem_map.mp hb
              obtain ⟨b, c, h1, h2, _⟩ := inL k hk
              rw [h1]
              exact nd.2.2 a ha b h2
          · by_cases hi : i < st0.length
            · rw [List.getElem?_append_left (by rw [List.length_take]; omega), List.getElem?_take_of_lt hi] at h1
              rw [List.getElem?_append_left (by omega)] at h2
              exact (old i c a h1 h2).wide
            · rw [List.getElem?_append_right (by rw [List.length_take]; omega), List.length_take, Nat.min_eq_left hle, List.getElem?_map] at h1
              rw [List.getElem?_append_right (by omega), hm0, List.getElem?_map] at h2
              cases hj : L[i - st0.length]? with
              | none => rw [hj] at h1; cases h1
              | some k =>
                rw [hj] at h1 h2
                obtain ⟨b, c', g1, _, g3, g4⟩ := inL k (List.mem_of_getElem? hj)
                rw [Option.map_some, Option.some.injEq] at h1 h2
                subst h1
                rw [g1] at h2
                have hab : b = a := h2
                subst hab
                unfold pickC
                rw [g3]
                exact (s'.ok k c' b g3 g1).rn hg g4
        exact h.go e2 s2 v (rv.rn hg c3)
      · rw [if_neg hc] at h; exact h
    · rw [if_neg hk] at h; exact h
/-! ### a def -/
/-- a def (or a method) that stands in the text -/
structure DefOk (W : Wd) (cc : CC) (i : Nat) (fi : FnIR) : Prop where
  ex : ∃ (x qual : Str) (st : Stmt) (Ns : List Str) (lam : Option (Addr × Str)), Fun W.K x qual st (W.fa i) (W.fd i) ∧ FnScope Ns (W.ps i) (defScope st) ∧ chkSs { cc with lam := lam } Ns (defScope st) fi.body (defBody st) = true ∧ Ns.length = fi.nl ∧ (W.ps i).length = fi.np ∧ fi.np ≤ fi.nl ∧ (lam.isSome = true → fi.lm = true) ∧
    ∀ c q, lam = some (c, q) → (W.fd i).code = .ref c ∧ q = (PyProof.Rows.envOfC qual (defScope st) 0 0 .none).qual ∧ ∃ P, LamX.TabB W.base W.mg c P ∧ (P, q ++ "<lambda>") ∈ W.T ∧ ∀ p ∈ W.T, p.1 = P → p.2 = q ++ "<lambda>"
theorem WOk.lamm (h : WOk W cc) (lam : Option (Addr × Str)) : WOk W { cc with lam := lam } := ⟨h.fn, h.bi, h.gl, h.bl, h.cl, h.cls, h.nf, h.mkk, h.mt, h.td, h.x0, h.x1⟩
theorem lv_step (hW : WOk W cc) (hd : ∀ (i : Nat) (fi : FnIR), W.pr.fns[i]? = some fi → DefOk W cc i fi) (L : Lv W k) {i j : Nat} {fi : FnIR} (hi : W.pr.fns[i]? = some fi) (hj : (fi.lm = false ∧ j = k + 1) ∨ (fi.lm = true ∧ j = k + 2)) :
    FnOk W.P W.w W.K W.mg W.base (L2.CX W.P W.w) (2 * j + 1) (W.fa i) (W.fd i) (W.ps i) (spE W (W.pr.call W.F j) i) := by
  obtain ⟨x, qual, st, Ns, lam, F, S, hc, hl, hp, hle, hlm, hlam⟩ := (hd i fi hi).ex
  have hlm2 : lam.isSome = true → 2 * j = 2 * k + 4 := fun e => by
    rcases hj with ⟨h1, h2⟩ | ⟨h1, h2⟩
    · rw [hlm e] at h1; cases h1
    · omega
  have hjk : 2 * k + 2 ≤ 2 * j := by rcases hj with ⟨_, h2⟩ | ⟨_, h2⟩ <;> omega
  obtain ⟨oc, od, kV, doc, pm, an, cdv, ct, osl, hfd, lk, hcd⟩ := F.ex
  rw [hfd] at lk
  have hcode : (W.fd i).code = cdv := by rw [hfd] <;> rfl
  have main : FnOk W.P W.w W.K W.mg W.base (L2.CX W.P W.w) (2 * j + 1) (W.fa i) (PySem.W.fnOf x qual (defArgs st) (defBody st) (defScope st) .none kV doc pm an cdv ct) (W.ps i) (spE W (W.pr.call W.F j) i) := ?_
  · rw [hfd]; exact main
  refine fn_of (k := 2 * j) lk hcd S (fun vs H Q E h => ?_) (fun A outer s H vs Q E hr h => ?_)
  · obtain ⟨m, st, ds, _, _, h, _⟩ := h
    exact h
  obtain ⟨m, sto, ds, sm, rs, hlen, p⟩ := h
  have hl0 : ∀ c q, lam = some (c, q) → Room (2 * k + 4) (A.deeper (PyProof.Rows.envOfC qual (defScope st) s.heap.objs.size (W.fa i) cdv)) ∧ cdv = .ref c ∧ (PyProof.Rows.envOfC qual (defScope st) 0 0 .none).qual = q ∧ ∃ P, LamX.TabB W.base W.mg c P ∧ (P, q ++ "<lambda>") ∈ W.T ∧ ∀ p ∈ W.T, p.1 = P → p.2 = q ++ "<lambda>" := fun c q e => by
    obtain ⟨h1, h2, h3⟩ := hlam c q e
    exact ⟨hr.mono (by rw [hlm2 (by rw [e]; rfl)]; exact Nat.le_refl _), hcode.symm.trans h1, h2.symm, h3⟩
  have hX : SOk W { cc with lam := lam } Ns (defScope st) k E (cxOf (L2.CX W.P W.w) W.P W.w W.K W.mg W.base Ns qual (defScope st) (W.fa i) cdv A outer s H E) :=
    ⟨⟨rfl, rfl, rfl, rfl, rfl, rfl, S.nd, rfl, rfl, hr.mono (by omega), passes_call (takes_of rfl rfl rfl rfl) fun _ _ _ _ h => h, fun c q e => by
      obtain ⟨h1, h2, h3, h4⟩ := hl0 c q e
      exact ⟨h1, h2, h3, h4⟩⟩, rfl, S.kind, passes_of rfl, takes_of rfl rfl rfl rfl⟩
  refine ⟨_, sndSs (WOk.lamm hW lam) L fi.body hc hX, ?_⟩
  have p' : Pg W E m H (finish sto (runB (evSs (W.cl k) W.F fi.body (ds.map some ++ List.replicate (fi.nl - fi.np) none) sto))) (kD W Q) := by
    rw [call_step W.pr W.F hi hj] at p
    have p : Pg W E m H (W.pr.step W.F (W.cl k) i ds sto) (kD W Q) := p
    unfold Prog.step at p
    rw [hi] at p
    exact p.ite.2
  have q := finish_ok sm p'
  have hdl : ds.length = fi.np := by rw [← rs.len, hlen, hp]
  refine ⟨m, ds.map some ++ List.replicate (fi.nl - fi.np) none, sto, sm, ⟨?_, fun j d hj => ?_⟩, ?_⟩
  · have e1 := rs.len
    unfold L2.start
    simp only [List.length_append, List.length_map, List.length_replicate]
    omega
  · unfold L2.start
    by_cases hjl : j < ds.length
    · rw [List.getElem?_append_left (by simpa using hjl), List.getElem?_map] at hj
      cases hq : ds[j]? with
      | none => rw [hq] at hj; cases hj
      | some d' =>
        rw [hq] at hj
        cases hj
        obtain ⟨v, hv, rv⟩ := rs.get hq
        have hjv : j < vs.length := (List.getElem?_eq_some_iff.mp hv).1
        refine ⟨v, ?_, rv⟩
        rw [List.getElem?_append_left (by simpa using hjv), List.getElem?_map, hv]
        rfl
    · rw [List.getElem?_append_right (by simpa using Nat.le_of_not_lt hjl)] at hj
      rw [List.getElem?_replicate] at hj
      split at hj
      · cases hj
      · cases hj
  · generalize evSs (W.cl k) W.F fi.body (ds.map some ++ List.replicate (fi.nl - fi.np) none) sto = r at q
    cases r with
    | ok f ρ st1 => cases f with
      | nx => exact fun σ' H' m' e' s' _ => q H' m' e' s' _ (by rw [Rp])
      | bk => exact q.elim
      | ct => exact q.elim
      | rt d => exact fun v H' m' e' s' rv => q H' m' e' s' v rv
    | exc x ρ st1 => exact q
    | stuck => exact q.elim
/-- all levels -/
theorem lv_low {j i : Nat} {fi : FnIR} (hi : W.pr.fns[i]? = some fi) (hj : j = 0 ∨ (fi.lm = true ∧ j = 1)) : FnOk W.P W.w W.K W.mg W.base (L2.CX W.P W.w) (2 * j + 1) (W.fa i) (W.fd i) (W.ps i) (spE W (W.pr.call W.F j) i) := by
  have no : ∀ vs H Q E, ¬ spE W (W.pr.call W.F j) i vs H Q E := fun vs H Q E h => by
    obtain ⟨_, _, _, _, _, _, p⟩ := h
    rw [call_low W.pr W.F hi hj] at p
    exact p
  exact ⟨fun vs H Q E h => absurd h (no vs H Q E), fun A outer s H args us vs Q E _ _ _ _ h => absurd h (no vs H Q E)⟩
theorem lv_all (hW : WOk W cc) (hd : ∀ (i : Nat) (fi : FnIR), W.pr.fns[i]? = some fi → DefOk W cc i fi) : ∀ k, Lv W k
  | 0 => fun i fi hi => lv_low hi (.inl rfl)
  | 1 => fun i fi hi => by
    cases hl : fi.lm with
    | true => exact lv_low hi (.inr ⟨hl, rfl⟩)
    | false => exact lv_step hW hd (lv_all hW hd 0) hi (.inl ⟨hl, rfl⟩)
  | k + 2 => fun i fi hi => by
    cases hl : fi.lm with
    | true => exact lv_step hW hd (lv_all hW hd k) hi (.inr ⟨hl, rfl⟩)
    | false => exact lv_step hW hd (lv_all hW hd (k + 1)) hi (.inl ⟨hl, rfl⟩)
/-- THE LAW: it promises True, if its evaluation says so -/
def spLaw (T : List (Addr × Str)) (K : PySem.W.Frag) : Sp := fun vs H Q _ => ∃ (a : Addr) (ns : List Int), vs = [.ref a] ∧ (∀ p ∈ T, H p.1 = some (.tbl #[])) ∧ SqF K H a (ns.map V.int) ∧ ns.length ≤ 63 ∧ ∀ H', Q (.bl true) H'
theorem ints_Rps {K : PySem.W.Frag} {H : Hp} {m : List Addr} : ∀ ns : List Int, Rps K H m (ns.map D.int) (ns.map V.int)
  | [] => by simp [Rps]
  | n :: ns => by
    simp only [List.map_cons]; rw [Rps]
    exact ⟨_, _, rfl, by rw [Rp], ints_Rps ns⟩
theorem law_ok {i : Nat} {fi : FnIR} (L : Lv W k) (hi : W.pr.fns[i]? = some fi) (hp : (W.ps i).length = 1) (h : ∀ ns : List Int, ns.length ≤ 63 → ∃ st, W.pr.call W.F k i [.fl (ns.map D.int)] [] = .ok (.bl true) st) :
    FnOk W.P W.w W.K W.mg W.base (L2.CX W.P W.w) (2 * k + 1) (W.fa i) (W.fd i) (W.ps i) (spLaw W.T W.K) := by
  refine (L i fi hi).imp fun vs H Q E hs => ?_
  obtain ⟨a, ns, rfl, ho, hq, hl, q⟩ := hs
  obtain ⟨st, hst⟩ := h ns hl
  refine ⟨[], [], [.fl (ns.map D.int)], ⟨rfl, List.nodup_nil, fun i c a h => by simp at h, fun p hp => ⟨#[], ho p hp, True.intro, fun pos cv hc => ?_⟩⟩, ?_, by rw [hp]; rfl, ?_⟩
  · have z : codeAmong pos [] = some cv := hc
    simp [codeAmong] at z
  · rw [Rps]
    refine ⟨.ref a, [], rfl, ?_, by rw [Rps]⟩
    rw [Rp]
    exact ⟨a, _, rfl, hq, ints_Rps ns⟩
  · rw [hst]
    intro H' m' _ _ v rv
    rw [Rp] at rv; subst rv
    exact q H'
end
end Z
/-! own exceptions whose __init__ says Base.__init__(self, text); self.f = p -/
namespace Z
open PySem L2 PySem.Spec PyProof.Rows
/-- what the written part says of the base class B, by the name b -/
structure BaseC (X : Cx) (b : Str) (B : Addr) : Prop where
  mg : X.mg b = some (.ref B)
  sp : PySem.W.specialIn X.K (.ref B) "__getattribute__" = some (some (.builtin "type.__getattribute__"))
  rd : PySem.W.readsIn X.K B (.type "type") = true
  fi : PySem.W.findCls X.K (.ref B) (.type "type") "__init__" = some (.val (.builtin "ValueError.__init__"))
section
variable {X : Cx} {o e : Expr} {es : List Expr} {ta : TA} {b : Str} {B : Addr} {p1 p2 pos : Pos}
theorem pe_ownInit {pl : Sem Bool} (hg : Gl X b) (hb : BaseC X b B) (hdb : (b == ("__debug__" : Str)) = false) (ha : PA X (e :: es) ta)
    (hc : eval (.Call (.Attribute (.Name b p1) "__init__" p2) (e :: es) [] pos) X.env = (do
      let ov ← eval (.Name b p1) X.env
      standAt p2.atName
      let (f, first) ← holding [ov] (getMethod ov "__init__" pl)
      callWith pos f first (backTo pos (starEach (e :: es) X.env)) (backToKw pos (keywordEach [] X.env))))
    (he : starEach (e :: es) X.env = (false, eval e X.env) :: starEach es X.env) (hpl : (backTo pos (starEach es X.env)).any (·.1) = false) :
    PE X (.Call (.Attribute (.Name b p1) "__init__" p2) (e :: es) [] pos) (tVeI X.K ta) := by
  refine ⟨fun pins s σ H Q I h => ?_⟩
  refine PySem.W.methodCall_KW (ld_glob I hg hb.mg ?_ hdb) hc
  refine PySem.W.method_cls I.kIn hb.sp ?_
  refine PySem.W.cls_value I.kIn hb.rd hb.fi (by decide +kernel) ?_
  show wpAny _ _ (callWith pos (Value.builtin "ValueError.__init__") [] (backTo pos (starEach (e :: es) X.env)) []) _ _ _
  refine PyProof.Rows.callWith_method1 (thn (ha.run pos pins _ σ H _ (I.tok _) h) fun us s1 ⟨vs, H1, I1, r1, a, C, ws, ev, hl, T, ea, q⟩ => ?_) he hpl
  subst ev
  cases r1 with
  | @cons _ u0 _ ur ra rw' =>
    obtain rfl : u0 = Value.ref a := ra
    have hlen : ur.length ≤ sizeLine := by
      rw [← Paired.length rw', sizeLine_eq]
      omega
    exact oinit_ok T I1 ea hlen fun s' J => ⟨.non, H1, J, rfl, q⟩
end
end Z
/-! an own __init__ that says Base.__init__(self, text); self.f = p -/
namespace Z
open PySem L2 PySem.Spec PyProof.Rows
/-- its text -/
def iniB (b f : Str) (s p : Str) : List Stmt → Bool
  | [.Expr (.Call (.Attribute (.Name b' _) i ap) [.Name s' _, .Constant (.str _) _ _] [] cp) _, .Assign [.Attribute (.Name s2 _) f' _] (.Name p' _) _] =>
    decide (b' = b) && decide (i = "__init__") && decide (s' = s) && decide (s2 = s) && decide (f' = f) && decide (p' = p) && (ap.endLine == cp.line)
  | _ => false
section
variable {P : Program} {w : World} {K : PySem.W.Frag} {mg : Str → Option Value} {base : Heap}
theorem ini_ok {x qual : Str} {st : Stmt} {fI : Addr} {fd : FuncData} {b f s p : Str} {B C : Addr} (F : Fun K x qual st fI fd) (S : FnScope [s, p] [s, p] (defScope st)) (h : iniB b f s p (defBody st) = true)
    (hv : Vis (defScope st) s) (hw : Vis (defScope st) p) (hg : (defScope st).names.lookup b = some .globalImplicit) (ds : (s == ("__debug__" : Str)) = false) (dp : (p == ("__debug__" : Str)) = false) (cs : (s == ("__classdict__" : Str)) = false) (cp : (p == ("__classdict__" : Str)) = false) (db : (b == ("__debug__" : Str)) = false)
    (hmg : mg b = some (.ref B)) (sp : PySem.W.specialIn K (.ref B) "__getattribute__" = some (some (.builtin "type.__getattribute__"))) (rd : PySem.W.readsIn K B (.type "type") = true) (fi : PySem.W.findCls K (.ref B) (.type "type") "__init__" = some (.val (.builtin "ValueError.__init__")))
    (T : OexC K C) (hno : PySem.W.findIn K (.ref C) f = some none) : FnOk P w K mg base (L2.CX P w) 1 fI fd [s, p] (spI C f) := by
  refine Fun.okX (k := 0) F S (fun vs H Q E h => ?_) (fun cdv A outer s0 H vs Q E hr hq => ?_)
  · obtain ⟨a, v, rfl, _⟩ := h; rfl
  obtain ⟨a, v, rfl, ha, hq⟩ := hq
  unfold iniB at h
  split at h
  · rename_i b' p1 i ap s' p2 t j p3 cp0 p4 s2 p5 f' p6 p' p7 p8 hb
    simp only [Bool.and_eq_true, decide_eq_true_eq] at h
    obtain ⟨⟨⟨⟨⟨⟨rfl, rfl⟩, rfl⟩, rfl⟩, rfl⟩, rfl⟩, hl⟩ := h
    rw [hb]
    refine ⟨_, pss_cons (ps_expr (pe_ownInit (ta := tCons (tVar 0) (tCons (tC (.str t)) tNil)) hg ⟨hmg, sp, rd, fi⟩ db (pa_cons (pe_var (i := 0) rfl hv ds cs) (pa_cons pe_str pa_nil) rfl) (meth_form (by rfl) hl rfl (by simp)) rfl rfl) rfl) (pss_one (ps_ost (pe_var (i := 0) rfl hv ds cs) (pe_var (i := 1) rfl hw dp cp))), ?_⟩
    exact ⟨.ref a, rfl, a, C, [.str t], rfl, by simp, T, ha, v, rfl, .ref a, rfl, a, C, rfl, T, hno, .inl ⟨ha, fun dx n ne => hq dx n ne⟩⟩
  · cases h
end
end Z
/-! xs.count(d) of data -/
namespace Z
open PySem L2 PySem.Spec PyProof.Rows
def rCountD (K : PySem.W.Frag) : V → List V → Hp → VK → Prop := fun x xs H Q => ∃ (a : Addr) (y : V) (d : PyData) (ds : List PyData), x = V.ref a ∧ xs = [y] ∧ Dp K H (V.ref a) (.list ds) ∧ Dp K H y d ∧
  SeqAt.shaped (.list ds) = true ∧ SeqAt.shaped d = true ∧ Q (.int ((ds.countP fun z => PyData.eqv z d : Nat) : Int)) H
theorem mt_countD {X : Cx} (hu : X.A.units + 65 < cLine) : MtR X "list.count" (rCountD X.K) := by
  intro pins s σ H x xs v us Q I rx rxs h
  obtain ⟨a, y, d, ds, rfl, rfl, hl, hy, sl, sd, q⟩ := h
  cases rx
  obtain ⟨uy, rfl, ry⟩ := rxs.one
  obtain ⟨bs, r1⟩ := Dp.reads I d y uy hy ry
  have lays : PyData.canLayAll0 ds = true := SeqAt.canLay_of_shaped sl
  have room : X.A.units + 1 + min (PyData.depthAll ds) d.depth < cLine := room_in_shaped sd hu
  cases hl with
  | lst hs ha =>
    obtain ⟨its, rv, ⟨⟨cls, dd, data, sls⟩, n, ho, hc, hdn, hdt⟩, hlen⟩ := I.list hs
    dsimp only at hc hdt
    subst hc hdt
    obtain ⟨as, h4⟩ := Dp.readsAll I ds _ its ha rv
    have e1 : its.map (SeqAt.readOf s.heap) = ds := SeqAt.readsAll_map ds its as lays h4
    refine call_meets PySem.F.slot_list_count ⟨_, ho, rfl⟩ PySem.F.entry_list_count (PySem.F.args_list_count_2 _ _)
      (SeqAt.list_countAt a its.toArray n dd sls uy (fun u => PyData.eqv (SeqAt.readOf s.heap u) d)) ⟨ho, SeqAt.items_eqAt (vs := its.toArray) (show ReadsAll s.heap its.toArray.toList ds as from h4) r1 lays (SeqAt.canLay_of_shaped sd) room, ?_⟩
    have e2 : its.toArray.toList.countP (fun u => PyData.eqv (SeqAt.readOf s.heap u) d) = ds.countP fun z => PyData.eqv z d := by
      rw [← e1, List.countP_map]; rfl
    rw [e2]
    exact ⟨.int _, H, I.tok _, ⟨s.toks, rfl⟩, q⟩
/-- isinstance(e, c), e the exception that the suite holds, with its fields or without -/
def rIsZ (K : PySem.W.Frag) (D : Addr) (d : Option Addr) (a : Addr) : List V → Hp → VK → Prop := fun xs H Q => ∃ (c : V) (cv : Value) (b : Bool), xs = [.ref a, c] ∧ (∀ u, RelV c u → u = cv) ∧ PySem.W.kitOne K (.ref D) cv = some b ∧
  (d = none ∨ ∃ dd fs, d = some dd ∧ H dd = some (.xd fs)) ∧ Q (.bl b) H
theorem call_isZ {X : Cx} {a D : Addr} {d : Option Addr} {oe : Obj} {pn : List (Addr × Obj)} (C : ExcC X.K D) (hz : Zc (.ref D) d oe) (hf : ∃ vs, oe.data = .fields vs) : CallR (X.suite a ((a, oe) :: pn)) (.builtin "isinstance") (rIsZ X.K D d a) := by
  intro pins s σ H xs us Q I r h
  obtain ⟨c, cv, b, rfl, hcv, e, hd, q⟩ := h
  cases r with
  | cons rx rr =>
    cases rr with
    | cons rt rr =>
      cases rr
      cases rx
      have ec := hcv _ rt
      subst ec
      obtain ⟨hget, _⟩ := I.pin (a, oe) (List.mem_append_left _ List.mem_cons_self)
      obtain ⟨vs, hv⟩ := hf
      have J : ∃ od, PySem.W.InstAt s.heap a oe D od := by
        have hn : PySem.W.notCls oe = true := by unfold PySem.W.notCls; rw [hv] <;> rfl
        rcases hd with e0 | ⟨dd, fs, e0, ed⟩
        · exact ⟨none, hget, hz.1, hn, by rw [hz.2, e0]; trivial⟩
        · have hx : ObjOk X.prog X.w H s.heap dd (.xd fs) := I.hok dd _ ed
          obtain ⟨mA, hns, hr⟩ := hx
          obtain ⟨od, ho, hl⟩ := lookIn_ns hns
          exact ⟨some od, hget, hz.1, hn, by rw [hz.2, e0]; exact ho⟩
      obtain ⟨od, J⟩ := J
      have hcl : (PySem.W.clsIn X.K D).isSome = true := by
        obtain ⟨cd, hc, _⟩ := PySem.W.any_some C.hd
        rw [hc]; rfl
      exact PySem.W.kia_one (PySem.W.kitx_exc hcl C.hg C.hk C.hs C.ha C.hn C.ht C.hm) I.kIn J e (fun z => nomatch z) fun tk => ⟨.bl b, H, I.kept (t' := tk) fun _ _ z => z, rfl, q⟩
/-- isinstance(e, c) for each of the names -/
def isB (sc : Scope) (en : Str) : List Expr → List Str → Bool
  | [], [] => true
  | .Call (.Name i _) [.Name e _, .Name nm _] [] _ :: es, n :: ns => decide (i = "isinstance") && decide (e = en) && decide (nm = n) && glB sc nm && isB sc en es ns
  | _, _ => false
section
variable {X : Cx} {a D : Addr} {d : Option Addr} {oe : Obj} {pn : List (Addr × Obj)} {i : Nat} {en : Str}
theorem gl_B {sc : Scope} {x : Str} (h : glB sc x = true) (hs : X.env.scope = sc) : Gl X x ∧ (x == ("__debug__" : Str)) = false := by
  unfold glB at h
  rw [Bool.and_eq_true, decide_eq_true_eq, decide_eq_true_eq] at h
  refine ⟨?_, h.2⟩
  show X.env.scope.names.lookup x = _
  rw [hs]; exact h.1
/-- the caught exception's fields stand -/
def Fld (d : Option Addr) (H : Hp) : Prop := d = none ∨ ∃ dd fs, d = some dd ∧ H dd = some (.xd fs)
theorem pe_isZ (C : ExcC X.K D) (hz : Zc (.ref D) d oe) (hf : ∃ vs, oe.data = .fields vs) (hN : X.N[i]? = some en) (hv : Vis X.env.scope en) (de : (en == ("__debug__" : Str)) = false) (ce : (en == ("__classdict__" : Str)) = false) (gi : Gl X "isinstance") (mi : X.mg "isinstance" = none)
    {x : Expr} {c : V} {cv : Value} {b : Bool} {p p1 pos : Pos} (hx : PE (X.suite a ((a, oe) :: pn)) x (tC c)) (hs : isStar x = false) (hcv : ∀ u, RelV c u → u = cv) (hk : PySem.W.kitOne X.K (.ref D) cv = some b) :
    PE (X.suite a ((a, oe) :: pn)) (.Call (.Name "isinstance" p) [.Name en p1, x] [] pos) (fun σ H Q => σ[i]? = some (some (.ref a)) ∧ Fld d H ∧ Q (.bl b) H) := by
  refine PE.weak (pe_callB (call_isZ C hz hf) gi mi (by decide +kernel) (pa_cons (pe_var (i := i) hN hv de ce) (pa_cons hx pa_nil (star_cons hs)) rfl) (by decide) (by decide) rfl (by rw [star_cons hs]; rfl)) fun σ H Q w => ?_
  obtain ⟨h1, h2, h3⟩ := w
  exact ⟨.ref a, h1, c, cv, b, rfl, hcv, hk, h2, h3⟩
theorem pa_isZ (C : ExcC X.K D) (hz : Zc (.ref D) d oe) (hf : ∃ vs, oe.data = .fields vs) (hN : X.N[i]? = some en) (hv : Vis X.env.scope en) (de : (en == ("__debug__" : Str)) = false) (ce : (en == ("__classdict__" : Str)) = false) (gi : Gl X "isinstance") (mi : X.mg "isinstance" = none) :
    ∀ (es : List Expr) (ns : List (Str × Bool)), isB X.env.scope en es (ns.map (·.1)) = true → (∀ p ∈ ns, ∃ C', X.mg p.1 = some (.ref C') ∧ PySem.W.kitOne X.K (.ref D) (.ref C') = some p.2) →
      PA (X.suite a ((a, oe) :: pn)) es (fun σ H Q => σ[i]? = some (some (.ref a)) ∧ Fld d H ∧ Q (ns.map fun p => V.bl p.2) H) := by
  intro es
  induction es with
  | nil =>
    intro ns h hk
    cases ns with
    | nil => exact PA.weak pa_nil fun σ H Q w => w.2.2
    | cons n ns => cases h
  | cons e es ih =>
    intro ns h hk
    cases ns with
    | nil => unfold isB at h; simp at h
    | cons n ns =>
      rw [List.map_cons] at h
      unfold isB at h
      split at h
      · rename_i h1 h2; cases h1
      · rename_i i' p1 e' p2 nm p3 p4 es' n' ns' h1 h2
        injection h1 with h1 h3
        injection h2 with h2 h4
        subst h1 h3 h2 h4
        simp only [Bool.and_eq_true, decide_eq_true_eq] at h
        obtain ⟨⟨⟨⟨e1, e2⟩, e3⟩, g⟩, h⟩ := h
        obtain ⟨C', m1, m2⟩ := hk n List.mem_cons_self
        rw [← e3] at m1
        obtain ⟨g1, g2⟩ := gl_B (X := X) g rfl
        have ih := ih ns h fun p hp => hk p (List.mem_cons_of_mem _ hp)
        have q := pe_isZ (p := p1) (p1 := p2) (pos := p4) (a := a) (pn := pn) C hz hf hN hv de ce gi mi (pe_glob (pos := p3) (u := .ref C') (v := .ref C') g1 m1 rfl g2) rfl (fun u r => r) m2
        rw [e1, e2]
        refine PA.weak (pa_cons q ih rfl) fun σ H Q w => ?_
        exact ⟨w.1, w.2.1, w.1, w.2.1, w.2.2⟩
      · cases h
end
end Z
/-! the laws' def that tells of a work: its text, and that it tells so -/
namespace Z
open PySem L2 PySem.Spec PyProof.Rows
def tW : List Str := ["BadTree", "BadBook", "BadPlace", "TooBig", "TooMany", "NotKeeping", "BadState", "BadPairs", "BadText"]
def tF (j : Nat) : Option Str := if j = 0 then some "place" else if j = 1 ∨ j = 5 ∨ j = 8 then some "number" else none
def tN (wn : Str) : List Str := ["_law_work", "e", "_law_kinds", "_law_words", wn]
def consB : List Expr → List Str → Bool
  | [], [] => true
  | .Constant (.str s) _ _ :: es, w :: ws => decide (s = w) && consB es ws
  | _, _ => false
def t0B (sc : Scope) : Stmt → Bool
  | .Assign [.Name x _] (.List es _) _ => decide (x = "_law_kinds") && isB sc "e" es (tW.take 4)
  | _ => false
def t1B (sc : Scope) (ns : List Str) : Stmt → Bool
  | .Assign [.Name x _] (.BinOp (.Name y _) .Add (.List es _) _) _ => decide (x = "_law_kinds") && decide (y = "_law_kinds") && isB sc "e" es ns
  | _ => false
def otherB : List Stmt → Bool
  | [.Return (some (.Tuple [.Constant (.str _) _ _, .Constant (.int _) _ _] _ _)) _] => true
  | _ => false
def t3B : Stmt → Bool
  | .If (.BoolOp .Or [.Compare (.Call (.Attribute (.Name k _) m ap) [.Constant (.bool true) _ _] [] cp) [.NotEq] [.Constant (.int 1) _ _] _, .UnaryOp .Not (.Call (.Name i _) [.Name e _, .Name v _] [] _) _] _) b [] _ =>
    decide (k = "_law_kinds") && decide (m = "count") && (ap.endLine == cp.line) && decide (i = "isinstance") && decide (e = "e") && decide (v = "ValueError") && otherB b
  | _ => false
def t4B : Stmt → Bool
  | .Assign [.Name x _] (.List es _) _ => decide (x = "_law_words") && consB es tW
  | _ => false
def t5B (wn : Str) : Stmt → Bool
  | .Assign [.Name x _] (.Subscript (.Name w _) (.Call (.Attribute (.Name k _) m ap) [.Constant (.bool true) _ _] [] cp) _) _ =>
    decide (x = wn) && decide (w = "_law_words") && decide (k = "_law_kinds") && decide (m = "index") && (ap.endLine == cp.line)
  | _ => false
def t6B (wn : Str) : Stmt → Bool
  | .If (.Compare (.Name x _) [.Eq] [.Constant (.str s) _ _] _) [.Return (some (.Tuple [.Name y _, .Attribute (.Name e _) f _] _ _)) _] [] _ =>
    decide (x = wn) && decide (s = "BadTree") && decide (y = wn) && decide (e = "e") && decide (f = "place")
  | _ => false
def t7B (wn : Str) : Stmt → Bool
  | .Return (some (.Tuple [.Name x _, .IfExp (.Compare (.Name y _) [.In] [.Tuple es k tp] _) (.Attribute (.Name e _) f _) (.Constant (.int 0) _ _) _] _ _)) _ =>
    decide (x = wn) && decide (y = wn) && decide (e = "e") && decide (f = "number") && consB es ["BadBook", "NotKeeping", "BadText"] && (!behindInMarks .In (.Tuple es k tp))
  | _ => false
def suiteB (sc : Scope) (wn : Str) : List Stmt → Bool
  | [s0, s1, s2, s3, s4, s5, s6, s7] => t0B sc s0 && t1B sc ["TooMany", "NotKeeping", "BadState"] s1 && t1B sc ["BadPairs", "BadText"] s2 && t3B s3 && t4B s4 && t5B wn s5 && t6B wn s6 && t7B wn s7
  | _ => false
def bodyB (sc : Scope) (wn : Str) : List Stmt → Bool
  | [.Try [.Return (some (.Call (.Name a _) [] [] _)) _] [.ExceptHandler (some (.Name x _)) (some n) (s0 :: s) _] [] [] _] => decide (a = "_law_work") && decide (x = "TellError") && decide (n = "e") && suiteB sc wn (s0 :: s)
  | _ => false
/-- what is known of a class that may be told -/
structure TC (K : PySem.W.Frag) (E : Nat → Addr) (TA : Addr) (C : Addr) (j : Nat) : Prop where
  lt : j < 9
  ex : ExcC K C
  is : ∀ i, i < 9 → PySem.W.kitOne K (.ref C) (.ref (E i)) = some (decide (i = j))
  ve : PySem.W.kitOne K (.ref C) (.type "ValueError") = some true
  te : PySem.W.exmOne K (.ref C) (.ref TA) = some true
  xf : XfC K C
  np : PySem.W.findIn K (.ref C) "place" = some none
  nn : PySem.W.findIn K (.ref C) "number" = some none
def rCW (W : Wd) : R2 := rBin W .add
def tsT (K : PySem.W.Frag) (E : Nat → Addr) (TA : Addr) (a : Addr) (cls : Value) (d : Option Addr) : TS := fun D σ H => (σ.length = 5 → σ[1]? = some (some (.ref a))) ∧ ∃ (C : Addr) (j : Nat) (v : V), cls = .ref C ∧ TC K E TA C j ∧
  (tF j = none → d = none ∧ v = .int 0) ∧ (∀ f, tF j = some f → ∃ dd, d = some dd ∧ H dd = some (.xd [(f, v)])) ∧
  ∀ H'' p, (∀ b o, H b = some o → H'' b = some o) → H'' p = none → D.rt (.ref p) (upd H'' p (.tup [.str (tW.getD j ""), v]))
section
variable {X : Cx}
theorem pa_cons_of : ∀ {es : List Expr} {ws : List Str}, consB es ws = true → PA X es (fun _ H Q => Q (ws.map V.str) H)
  | [], [], _ => PA.weak pa_nil fun σ H Q w => w
  | [], _ :: _, h => by cases h
  | e :: es, [], h => by unfold consB at h; simp at h
  | e :: es, w :: ws, h => by
    unfold consB at h
    split at h
    · rename_i h1 h2; cases h1
    · rename_i s j p es' w' ws' h1 h2
      injection h1 with h1 h3
      injection h2 with h2 h4
      subst h1 h3 h2 h4
      rw [Bool.and_eq_true, decide_eq_true_eq] at h
      obtain ⟨rfl, h⟩ := h
      exact PA.weak (pa_cons pe_str (pa_cons_of h) rfl) fun σ H Q w => w
    · cases h
end
theorem dpBools {K : PySem.W.Frag} {H : Hp} : ∀ bs : List Bool, DpAll K H (bs.map V.bl) (bs.map PyData.bool)
  | [] => .nil
  | b :: bs => .cons (.bl b) (dpBools bs)
theorem upd_keep {H : Hp} {p : Addr} {o : HO} (hp : H p = none) : ∀ b u, H b = some u → upd H p o b = some u := fun b u h => by rw [upd_ne (ne_of_none h hp)]; exact h

def bsJ (j : Nat) : List Bool := [decide (0 = j), decide (1 = j), decide (2 = j), decide (3 = j), decide (4 = j), decide (5 = j), decide (6 = j), decide (7 = j), decide (8 = j)]
theorem cntJ : ∀ j, j < 9 → (((bsJ j).map PyData.bool).countP fun z => PyData.eqv z (.bool true)) = 1 := by decide
theorem shpJ : ∀ j, j < 9 → SeqAt.shaped (.list ((bsJ j).map PyData.bool)) = true := by decide
theorem nine {P : Nat → Prop} (h : P 0 ∧ P 1 ∧ P 2 ∧ P 3 ∧ P 4 ∧ P 5 ∧ P 6 ∧ P 7 ∧ P 8) (j : Nat) (hj : j < 9) : P j := by
  obtain ⟨h0, h1, h2, h3, h4, h5, h6, h7, h8⟩ := h
  match j, hj with
  | 0, _ => exact h0
  | 1, _ => exact h1
  | 2, _ => exact h2
  | 3, _ => exact h3
  | 4, _ => exact h4
  | 5, _ => exact h5
  | 6, _ => exact h6
  | 7, _ => exact h7
  | 8, _ => exact h8
theorem idxJ : ∀ j, j < 9 → ((bsJ j).map PyData.bool)[j]? = some (.bool true) := nine ⟨rfl, rfl, rfl, rfl, rfl, rfl, rfl, rfl, rfl⟩
theorem befJ : ∀ j, j < 9 → ∀ m, m < j → ∀ z', ((bsJ j).map PyData.bool)[m]? = some z' → PyData.eqv z' (.bool true) = false := by
  intro j hj m hm z' hz
  have h : (bsJ j)[m]? = some false := by
    have : ∀ j, j < 9 → ∀ m, m < j → (bsJ j)[m]? = some false := by decide
    exact this j hj m hm
  rw [List.getElem?_map, h] at hz
  cases hz
  rfl
theorem strW : ∀ j, j < 9 → PyData.strOk (tW.getD j "") = true := by decide +kernel
theorem words_at : ∀ j : Nat, j < 9 → atI (tW.map V.str) (j : Int) = some (V.str (tW.getD j "")) := nine ⟨rfl, rfl, rfl, rfl, rfl, rfl, rfl, rfl, rfl⟩
/-- where the told text stands -/
structure SuOk (K : PySem.W.Frag) (mg : Str → Option Value) (E : Nat → Addr) (wn : Str) (sc : Scope) : Prop where
  nd : (tN wn).Nodup
  loc : ∀ x ∈ tN wn, sc.names.lookup x = some .local ∧ (x == ("__debug__" : Str)) = false ∧ (x == ("__classdict__" : Str)) = false
  gi : sc.names.lookup ("isinstance" : Str) = some .globalImplicit
  gv : sc.names.lookup ("ValueError" : Str) = some .globalImplicit
  mi : mg "isinstance" = none
  mv : mg "ValueError" = none
  mW : ∀ i, i < 9 → mg (tW.getD i "") = some (.ref (E i))
section
variable {X : Cx} {E : Nat → Addr} {TA : Addr} {wn : Str} {a : Addr} {oe : Obj} {cls : Value} {d : Option Addr} {pn : List (Addr × Obj)}
theorem suite_ok (S : SuOk X.K X.mg E wn X.env.scope) (hN : X.N = tN wn) (hu : X.A.units + 100 < cLine) (hz : Zc cls d oe) (hf : ∃ vs, oe.data = .fields vs) {ss : List Stmt} (h : suiteB X.env.scope wn ss = true) :
    PSs (X.suite a ((a, oe) :: pn)) ss (tsT X.K E TA a cls d) := by
  unfold suiteB at h
  split at h
  · rename_i s0 s1 s2 s3 s4 s5 s6 s7
    simp only [Bool.and_eq_true] at h
    obtain ⟨⟨⟨⟨⟨⟨⟨c0, c1⟩, c2⟩, c3⟩, c4⟩, c5⟩, c6⟩, c7⟩ := h
    refine ⟨fun pins s σ H D I h => ?_⟩
    obtain ⟨h1, C, j, v, rfl, T, m1, m2, q⟩ := h
    have hl : σ.length = 5 := by
      have e := I.len
      have e2 : (X.suite a ((a, oe) :: pn)).N = tN wn := hN
      rw [e2] at e
      exact e
    have h1 := h1 hl
    -- names
    have vis : ∀ x ∈ tN wn, Vis X.env.scope x := fun x hx => .inl (S.loc x hx).1
    have at0 : ∀ (i : Nat) (x : Str), (tN wn)[i]? = some x → X.N[i]? = some x := fun i x e => by rw [hN]; exact e
    have var : ∀ (i : Nat) (x : Str) (p : Pos), (tN wn)[i]? = some x → PE (X.suite a ((a, oe) :: pn)) (.Name x p) (tVar i) := fun i x p e => by
      have m := List.mem_of_getElem? e
      exact pe_var (at0 i x e) (vis x m) (S.loc x m).2.1 (S.loc x m).2.2
    have tgt : ∀ (i : Nat) (x : Str) (p : Pos), (tN wn)[i]? = some x → PG (X.suite a ((a, oe) :: pn)) (.Name x p) (gName i) := fun i x p e => by
      have m := List.mem_of_getElem? e
      exact pg_name (by show X.N.Nodup; rw [hN]; exact S.nd) (at0 i x e) (.inl (S.loc x m).1) (.inr (S.loc x m).1)
    have hue : X.A.units + 65 < cLine := by omega
    let n0 : List (Str × Bool) := [("BadTree", decide (0 = j)), ("BadBook", decide (1 = j)), ("BadPlace", decide (2 = j)), ("TooBig", decide (3 = j))]
    let n1 : List (Str × Bool) := [("TooMany", decide (4 = j)), ("NotKeeping", decide (5 = j)), ("BadState", decide (6 = j))]
    let n2 : List (Str × Bool) := [("BadPairs", decide (7 = j)), ("BadText", decide (8 = j))]
    have f0 : ∀ p ∈ n0, ∃ C', X.mg p.1 = some (.ref C') ∧ PySem.W.kitOne X.K (.ref C) (.ref C') = some p.2 := fun p hp => by
      simp only [n0, List.mem_cons, List.not_mem_nil, or_false] at hp
      rcases hp with rfl | rfl | rfl | rfl
      · exact ⟨E 0, S.mW 0 (by decide), T.is 0 (by decide)⟩
      · exact ⟨E 1, S.mW 1 (by decide), T.is 1 (by decide)⟩
      · exact ⟨E 2, S.mW 2 (by decide), T.is 2 (by decide)⟩
      · exact ⟨E 3, S.mW 3 (by decide), T.is 3 (by decide)⟩
    have f1 : ∀ p ∈ n1, ∃ C', X.mg p.1 = some (.ref C') ∧ PySem.W.kitOne X.K (.ref C) (.ref C') = some p.2 := fun p hp => by
      simp only [n1, List.mem_cons, List.not_mem_nil, or_false] at hp
      rcases hp with rfl | rfl | rfl
      · exact ⟨E 4, S.mW 4 (by decide), T.is 4 (by decide)⟩
      · exact ⟨E 5, S.mW 5 (by decide), T.is 5 (by decide)⟩
      · exact ⟨E 6, S.mW 6 (by decide), T.is 6 (by decide)⟩
    have f2 : ∀ p ∈ n2, ∃ C', X.mg p.1 = some (.ref C') ∧ PySem.W.kitOne X.K (.ref C) (.ref C') = some p.2 := fun p hp => by
      simp only [n2, List.mem_cons, List.not_mem_nil, or_false] at hp
      rcases hp with rfl | rfl
      · exact ⟨E 7, S.mW 7 (by decide), T.is 7 (by decide)⟩
      · exact ⟨E 8, S.mW 8 (by decide), T.is 8 (by decide)⟩
    have isZ : ∀ (es : List Expr) (ns : List (Str × Bool)), isB X.env.scope "e" es (ns.map (·.1)) = true → (∀ p ∈ ns, ∃ C', X.mg p.1 = some (.ref C') ∧ PySem.W.kitOne X.K (.ref C) (.ref C') = some p.2) →
        PA (X.suite a ((a, oe) :: pn)) es (fun σ H Q => σ[1]? = some (some (.ref a)) ∧ Fld d H ∧ Q (ns.map fun p => V.bl p.2) H) := fun es ns hb hk =>
      pa_isZ (X := X) (i := 1) (en := "e") T.ex hz hf (at0 1 "e" rfl) (vis "e" (by simp [tN])) (by decide) (by decide) S.gi S.mi es ns hb hk
    have p0 : ∃ t0, PS (X.suite a ((a, oe) :: pn)) s0 t0 ∧ ∀ D σ H, (σ[1]? = some (some (.ref a)) ∧ Fld d H ∧ ∀ p, H p = none → D.nx (σ.set 2 (some (.ref p))) (upd H p (.lst (n0.map fun p => V.bl p.2)))) → t0 D σ H := by
      unfold t0B at c0
      split at c0
      · simp only [Bool.and_eq_true, decide_eq_true_eq] at c0
        obtain ⟨rfl, c0⟩ := c0
        exact ⟨_, ps_asg (pe_lst (isZ _ n0 c0 f0)) (tgt 2 _ _ rfl), fun D σ H h => ⟨h.1, h.2.1, by rw [sizeLine_eq]; simp [n0], fun p hp => h.2.2 p hp⟩⟩
      · cases c0
    have pcat : ∀ (s : Stmt) (ns : List (Str × Bool)), t1B X.env.scope (ns.map (·.1)) s = true → (∀ p ∈ ns, ∃ C', X.mg p.1 = some (.ref C') ∧ PySem.W.kitOne X.K (.ref C) (.ref C') = some p.2) → ns.length < 10 →
        ∃ t0, PS (X.suite a ((a, oe) :: pn)) s t0 ∧ ∀ D σ H, (σ[1]? = some (some (.ref a)) ∧ Fld d H ∧ ∃ l xs, σ[2]? = some (some (.ref l)) ∧ H l = some (.lst xs) ∧ xs.length < 10 ∧
          ∀ p p2, H p = none → upd H p (.lst (ns.map fun p => V.bl p.2)) p2 = none → D.nx (σ.set 2 (some (.ref p2))) (upd (upd H p (.lst (ns.map fun p => V.bl p.2))) p2 (.lst (xs ++ ns.map fun p => V.bl p.2)))) → t0 D σ H := by
      intro s ns c hk hlen
      unfold t1B at c
      split at c
      · simp only [Bool.and_eq_true, decide_eq_true_eq] at c
        obtain ⟨⟨rfl, rfl⟩, c⟩ := c
        refine ⟨_, ps_asg (pe_op op_cat (var 2 _ _ rfl) (pe_lst (isZ _ ns c hk))) (tgt 2 _ _ rfl), fun D σ H h => ?_⟩
        obtain ⟨g1, g2, l, xs, g3, g4, g5, g6⟩ := h
        refine ⟨_, g3, g1, g2, by rw [sizeLine_eq]; simp; omega, fun p hp => ?_⟩
        exact ⟨l, p, xs, _, rfl, rfl, upd_keep hp _ _ g4, upd_same, by rw [sizeLine_eq]; simp; omega, fun p2 hp2 => g6 p p2 hp hp2⟩
      · cases c
    have p3 : ∃ t0, PS (X.suite a ((a, oe) :: pn)) s3 t0 ∧ ∀ D σ H, (σ[1]? = some (some (.ref a)) ∧ Fld d H ∧ ∃ l, σ[2]? = some (some (.ref l)) ∧ H l = some (.lst ((bsJ j).map V.bl)) ∧ D.nx σ H) → t0 D σ H := by
      unfold t3B at c3
      split at c3
      · rename_i k kp m ap b1 b2 cp i1 i2 cmp i ip e ep v' vp ip2 np bp b ifp
        simp only [Bool.and_eq_true, decide_eq_true_eq] at c3
        obtain ⟨⟨⟨⟨⟨⟨rfl, rfl⟩, hline⟩, rfl⟩, rfl⟩, rfl⟩, ho⟩ := c3
        have cnt := pe_bm (apos := ap) (cpos := cp) (X := X.suite a ((a, oe) :: pn)) PySem.F.plainAttrs_list PySem.F.slot_list_count PySem.F.type_list_count (mt_countD hue) (var 2 "_law_kinds" kp rfl) (pa_cons (pe_bl (b := true) (j := b1) (pos := b2)) pa_nil) rfl rfl hline rfl rfl
        have isv := pe_isZ (X := X) (i := 1) (en := "e") (pn := pn) (p := ip) (p1 := ep) (pos := ip2) T.ex hz hf (at0 1 "e" rfl) (vis "e" (by simp [tN])) (by decide) (by decide) S.gi S.mi (pe_bltn (X := X.suite a ((a, oe) :: pn)) (x := "ValueError") (v := .ty "ValueError") (u := .type "ValueError") (pos := vp) S.gv S.mv (by decide +kernel) rfl) rfl (fun u r => r) T.ve
        have tst := pw_or (pos := bp) (pt_cmpR (pos := cmp) op_ne cnt (pe_int (i := 1) (j := i1) (pos := i2)) (by rfl)) (pw_or1 (pt_not (pos := np) (pt_val isv)))
        obtain ⟨to, hto⟩ : ∃ to, PSs (X.suite a ((a, oe) :: pn)) b to := by
          unfold otherB at ho
          split at ho
          · exact ⟨_, pss_one (ps_ret (pe_tup (pa_cons pe_str (pa_cons pe_int pa_nil))))⟩
          · cases ho
        refine ⟨_, ps_if tst.pt hto pss_nil, fun D σ H h => ?_⟩
        obtain ⟨g1, g2, l, g3, g4, g5⟩ := h
        refine ⟨_, g3, .inl ⟨rfl, _, .inl (.inl g4)⟩, ?_⟩
        refine ⟨l, .bl true, .bool true, _, rfl, rfl, .lst (.inl (.inl g4)) (dpBools _), .bl true, shpJ j T.lt, by rfl, ?_⟩
        rw [cntJ j T.lt]
        refine ⟨by rfl, false, by rfl, ?_⟩
        exact ⟨g1, g2, true, rfl, g5⟩
      · cases c3
    have p4 : ∃ t0, PS (X.suite a ((a, oe) :: pn)) s4 t0 ∧ ∀ D σ H, (∀ p, H p = none → D.nx (σ.set 3 (some (.ref p))) (upd H p (.lst (tW.map V.str)))) → t0 D σ H := by
      unfold t4B at c4
      split at c4
      · simp only [Bool.and_eq_true, decide_eq_true_eq] at c4
        obtain ⟨rfl, c4⟩ := c4
        exact ⟨_, ps_asg (pe_lst (pa_cons_of c4)) (tgt 3 _ _ rfl), fun D σ H h => ⟨by rw [sizeLine_eq]; simp [tW], fun p hp => h p hp⟩⟩
      · cases c4
    have p5 : ∃ t0, PS (X.suite a ((a, oe) :: pn)) s5 t0 ∧ ∀ D σ H, (∃ l w, σ[2]? = some (some (.ref l)) ∧ H l = some (.lst ((bsJ j).map V.bl)) ∧ σ[3]? = some (some (.ref w)) ∧ H w = some (.lst (tW.map V.str)) ∧ D.nx (σ.set 4 (some (.str (tW.getD j "")))) H) → t0 D σ H := by
      unfold t5B at c5
      split at c5
      · rename_i x xp w wp k kp m ap b1 b2 cp sp asp
        simp only [Bool.and_eq_true, decide_eq_true_eq] at c5
        obtain ⟨⟨⟨⟨rfl, rfl⟩, rfl⟩, rfl⟩, hline⟩ := c5
        have idx := pe_bm (apos := ap) (cpos := cp) (X := X.suite a ((a, oe) :: pn)) PySem.F.plainAttrs_list PySem.F.slot_list_index PySem.F.type_list_index (mt_indexD hue) (var 2 "_law_kinds" kp rfl) (pa_cons (pe_bl (b := true) (j := b1) (pos := b2)) pa_nil) rfl rfl hline rfl rfl
        refine ⟨_, ps_asg (pe_ix ix_list (var 3 "_law_words" wp rfl) idx (plainIx_of rfl)) (tgt 4 _ _ rfl), fun D σ H h => ?_⟩
        obtain ⟨l, w, g1, g2, g3, g4, g5⟩ := h
        refine ⟨_, g3, _, g1, .inl ⟨rfl, _, .inl (.inl g2)⟩, ?_⟩
        exact ⟨l, .bl true, .bool true, _, j, .bool true, rfl, rfl, .lst (.inl (.inl g2)) (dpBools _), .bl true, shpJ j T.lt, by rfl, idxJ j T.lt, by rfl, fun m z' hm hz' => befJ j T.lt m hm z' hz', w, _, _, _, rfl, rfl, .inl (.inl g4), words_at j T.lt, g5⟩
      · cases c5
    have p6 : ∃ t0, PS (X.suite a ((a, oe) :: pn)) s6 t0 ∧ ∀ D σ H, (σ[1]? = some (some (.ref a)) ∧ σ[4]? = some (some (.str (tW.getD j ""))) ∧ (j = 0 → ∃ dd, d = some dd ∧ H dd = some (.xd [("place", v)]) ∧ ∀ p, H p = none → D.rt (.ref p) (upd H p (.tup [.str (tW.getD j ""), v]))) ∧ (j ≠ 0 → D.nx σ H)) → t0 D σ H := by
      unfold t6B at c6
      split at c6
      · rename_i x xp s' s1' s2' cp y yp e ep f fp tk tp rp ifp
        simp only [Bool.and_eq_true, decide_eq_true_eq] at c6
        obtain ⟨⟨⟨⟨rfl, rfl⟩, rfl⟩, rfl⟩, rfl⟩ := c6
        have tst := pt_cmpR (pos := cp) op_eq (var 4 _ xp rfl) (pe_str (X := X.suite a ((a, oe) :: pn)) (x := "BadTree") (j := s1') (pos := s2')) (by rfl)
        have fld := pe_xf (X := X) (a := a) (pn := pn) (pos := fp) T.xf T.np hz hf (var 1 "e" ep rfl)
        refine ⟨_, ps_if tst (pss_one (ps_ret (pe_tup (pa_cons (var 4 _ yp rfl) (pa_cons fld pa_nil))))) pss_nil, fun D σ H h => ?_⟩
        obtain ⟨g1, g2, g3, g4⟩ := h
        refine ⟨_, g2, by rfl, _, rfl, ?_⟩
        by_cases hj : j = 0
        · subst hj
          obtain ⟨dd, e1, e2, e3⟩ := g3 rfl
          exact ⟨_, g2, _, g1, rfl, rfl, dd, _, v, e1, e2, rfl, by rw [sizeLine_eq]; simp, fun p hp => e3 p hp⟩
        · have hb : decide (V.str (tW.getD j "") = V.str "BadTree") = false := by
            have : ∀ j, j < 9 → j ≠ 0 → decide (V.str (tW.getD j "") = V.str "BadTree") = false := by decide
            exact this j T.lt hj
          rw [hb]
          exact g4 hj
      · cases c6
    have p7 : ∃ t0, PS (X.suite a ((a, oe) :: pn)) s7 t0 ∧ ∀ D σ H, (σ[1]? = some (some (.ref a)) ∧ σ[4]? = some (some (.str (tW.getD j ""))) ∧ (∀ f, tF j = some f → f = "number" ∧ ∃ dd, d = some dd ∧ H dd = some (.xd [("number", v)])) ∧ (tF j = none → v = .int 0) ∧
        ∀ p0 o p, H p0 = none → upd H p0 o p = none → D.rt (.ref p) (upd (upd H p0 o) p (.tup [.str (tW.getD j ""), v]))) → t0 D σ H := by
      unfold t7B at c7
      split at c7
      · rename_i x xp y yp es k tp cp e ep f fp i1 i2 ifp tk2 tp2 rp
        simp only [Bool.and_eq_true, decide_eq_true_eq] at c7
        obtain ⟨⟨⟨⟨⟨rfl, rfl⟩, rfl⟩, rfl⟩, hes⟩, hm⟩ := c7
        have tst := pt_cmpR (pos := cp) (op_inM (X := X.suite a ((a, oe) :: pn)) hue) (var 4 _ yp rfl) (pe_tup (x1 := k) (pos := tp) (pa_cons_of hes)) (bnot hm)
        have fld := pe_xf (X := X) (a := a) (pn := pn) (pos := fp) T.xf T.nn hz hf (var 1 "e" ep rfl)
        refine ⟨_, ps_ret (pe_tup (pa_cons (var 4 _ xp rfl) (pa_cons (pe_ifExp tst fld (pe_int (i := 0))) pa_nil))), fun D σ H h => ?_⟩
        obtain ⟨g1, g2, g3, g4, g5⟩ := h
        refine ⟨_, g2, _, g2, by rw [sizeLine_eq]; simp, fun p0 hp0 => ?_⟩
        refine ⟨.str (tW.getD j ""), [.str "BadBook", .str "NotKeeping", .str "BadText"], .str _, .inr (.tup (.inl (.inl upd_same)) (.cons (.str _) (.cons (.str _) (.cons (.str _) .nil)))), by simp [SeqAt.shaped, PyData.canLay0, PyData.depth, -List.getD_eq_getElem?_getD]; exact strW j T.lt, by simp [SeqAt.shaped, PyData.canLay0, PyData.depth, PyData.canLayAll0, PyData.depthAll]; decide +kernel, _, rfl, ?_⟩
        have hb : (if false = true then !([PyData.str "BadBook", .str "NotKeeping", .str "BadText"].any fun z => PyData.eqv z (.str (tW.getD j ""))) else ([PyData.str "BadBook", .str "NotKeeping", .str "BadText"].any fun z => PyData.eqv z (.str (tW.getD j "")))) = decide (j = 1 ∨ j = 5 ∨ j = 8) := by
          have : ∀ j, j < 9 → (if false = true then !([PyData.str "BadBook", .str "NotKeeping", .str "BadText"].any fun z => PyData.eqv z (.str (tW.getD j ""))) else ([PyData.str "BadBook", .str "NotKeeping", .str "BadText"].any fun z => PyData.eqv z (.str (tW.getD j "")))) = decide (j = 1 ∨ j = 5 ∨ j = 8) := by decide
          exact this j T.lt
        rw [hb]
        by_cases hj : j = 1 ∨ j = 5 ∨ j = 8
        · rw [decide_eq_true hj]
          refine iteT ?_
          have hf' : tF j = some ("number" : Str) := by
            unfold tF
            rw [if_neg (by omega), if_pos hj]
          obtain ⟨_, dd, e1, e2⟩ := g3 _ hf'
          exact ⟨_, g1, rfl, rfl, dd, _, v, e1, upd_keep hp0 _ _ e2, rfl, by rw [sizeLine_eq]; simp, fun p hp => g5 p0 _ p hp0 hp⟩
        · rw [decide_eq_false hj]
          refine iteF ?_
          by_cases h0 : j = 0
          · subst h0
            exact absurd (g3 "place" rfl).1 (by decide)
          · have hf' : tF j = none := by
              unfold tF
              rw [if_neg h0, if_neg hj]
            have := g4 hf'
            subst this
            exact ⟨by rw [sizeLine_eq]; simp, fun p hp => g5 p0 _ p hp0 hp⟩
      · cases c7
    obtain ⟨t0, q0, w0⟩ := p0
    obtain ⟨t1, q1, w1⟩ := pcat s1 n1 c1 f1 (by simp [n1])
    obtain ⟨t2, q2, w2⟩ := pcat s2 n2 c2 f2 (by simp [n2])
    obtain ⟨t3, q3, w3⟩ := p3
    obtain ⟨t4, q4, w4⟩ := p4
    obtain ⟨t5, q5, w5⟩ := p5
    obtain ⟨t6, q6, w6⟩ := p6
    obtain ⟨t7, q7, w7⟩ := p7
    refine (pss_cons q0 (pss_cons q1 (pss_cons q2 (pss_cons q3 (pss_cons q4 (pss_cons q5 (pss_cons q6 (pss_one q7)))))))).run pins s σ H D I ?_
    obtain ⟨x0, x1, x2, x3, x4, rfl⟩ : ∃ x0 x1 x2 x3 x4, σ = [x0, x1, x2, x3, x4] := by
      match σ, hl with
      | [x0, x1, x2, x3, x4], _ => exact ⟨x0, x1, x2, x3, x4, rfl⟩
    have hx1 : x1 = some (.ref a) := by simpa using h1
    subst hx1
    have fd : ∀ H', (∀ b o, H b = some o → H' b = some o) → Fld d H' := fun H' e => by
      cases hf : tF j with
      | none => exact .inl (m1 hf).1
      | some f =>
        obtain ⟨dd, e1, e2⟩ := m2 f hf
        exact .inr ⟨dd, _, e1, e _ _ e2⟩
    refine w0 _ _ _ ⟨rfl, fd H (fun _ _ z => z), fun p hp => ?_⟩
    have k0 : ∀ b o, H b = some o → (upd H p (.lst (n0.map fun p => V.bl p.2))) b = some o := upd_keep hp
    refine w1 _ _ _ ⟨rfl, fd _ k0, p, _, rfl, upd_same, by simp [n0], fun p1 p2 hp1 hp2 => ?_⟩
    have k2 := fun b o z => upd_keep (o := .lst ((n0.map fun p => V.bl p.2) ++ n1.map fun p => V.bl p.2)) hp2 b o (upd_keep hp1 b o (k0 b o z))
    refine w2 _ _ _ ⟨rfl, fd _ k2, p2, _, rfl, upd_same, by simp [n0, n1], fun p3 p4 hp3 hp4 => ?_⟩
    have k4 := fun b o z => upd_keep (o := .lst (((n0.map fun p => V.bl p.2) ++ n1.map fun p => V.bl p.2) ++ n2.map fun p => V.bl p.2)) hp4 b o (upd_keep hp3 b o (k2 b o z))
    refine w3 _ _ _ ⟨rfl, fd _ k4, p4, rfl, upd_same, ?_⟩
    refine w4 _ _ _ fun p5 hp5 => ?_
    have k5 := fun b o z => upd_keep (o := .lst (tW.map V.str)) hp5 b o (k4 b o z)
    refine w5 _ _ _ ⟨p4, p5, rfl, upd_keep hp5 _ _ upd_same, rfl, upd_same, ?_⟩
    refine w6 _ _ _ ⟨rfl, rfl, fun hj => ?_, fun hj => ?_⟩
    · obtain ⟨dd, e1, e2⟩ := m2 "place" (by unfold tF; rw [if_pos hj])
      exact ⟨dd, e1, k5 _ _ e2, fun p hp => q _ p k5 hp⟩
    · refine w7 _ _ _ ⟨rfl, rfl, fun f hf => ?_, fun hf => (m1 hf).2, fun p0 o p h0 h1 => q _ p (fun b o z => upd_keep h0 b o (k5 b o z)) h1⟩
      have hn : f = "number" := by
        unfold tF at hf
        rw [if_neg hj] at hf
        split at hf
        · exact (Option.some.inj hf).symm
        · cases hf
      subst hn
      obtain ⟨dd, e1, e2⟩ := m2 _ hf
      exact ⟨rfl, dd, e1, k5 _ _ e2⟩
  · cases h
end
/-- that the def tells so -/
theorem told_ok {W : Wd} {x wn : Str} {E : Nat → Addr} {TA g : Addr} {pg : Arguments} {bg : List Stmt} {sg : Scope} {dV kV doc pm cdv ct oc : Value} {an od : Option Addr} {osl : Array (Option Value)} (h1 : W.mg x = some (.ref g)) (h2 : PySem.W.keepIn W.K (.ref g) = true)
    (h3 : W.K.lookup g = some ⟨oc, od, .func (PySem.W.fnOf x x pg bg sg dV kV doc pm an cdv ct), osl⟩) (h4 : PySem.W.codeIn W.K cdv x = true) (h5 : Binds W.K (PySem.W.fnOf x x pg bg sg dV kV doc pm an cdv ct) ["_law_work"] []) (h6 : FnScope (tN wn) ["_law_work"] sg)
    (hb : bodyB sg wn bg = true) (S : SuOk W.K W.mg E wn sg) (hgt : sg.names.lookup ("TellError" : Str) = some .globalImplicit) (hmt : W.mg "TellError" = some (.ref TA))
    (hc : ∀ c w fo, W.pr.tw c = some (w, fo) → ∃ j, TC W.K E TA (W.ca c) j ∧ sOf w = tW.getD j "" ∧ fo = tF j) : ToldOk W x := by
  refine ⟨g, pg, bg, sg, dV, kV, doc, pm, cdv, ct, oc, an, od, osl, tN wn, "_law_work", h1, h2, h3, h4, h5, h6, rfl, .inl (S.loc _ (by simp [tN])).1, by decide, by decide, ?_⟩
  intro X q eP ew eK emg ebase hroom f c' s H Q tl act hco h
  unfold bodyB at hb
  split at hb
  · rename_i a p1 p2 p3 xx xp n s0 ss hp tp
    simp only [Bool.and_eq_true, decide_eq_true_eq] at hb
    obtain ⟨⟨⟨rfl, rfl⟩, rfl⟩, hsu⟩ := hb
    have hgl : Gl (cxOf C8.CX0 X.prog X.w X.K X.mg X.base (tN wn) x sg g cdv X.A X.stack s H C8.E0).nox "TellError" := hgt
    have SS : SuOk X.K X.mg E wn sg := by rw [eK, emg]; exact S
    refine ⟨_, pss_one (ps_try_as (X := (cxOf C8.CX0 X.prog X.w X.K X.mg X.base (tN wn) x sg g cdv X.A X.stack s H C8.E0).nox) (c := .ref TA) (i := 1) (ts := tsT X.K E TA)
      (tb := fun W D σ H => ∃ Ech : XK, (∀ cls d σ' H', Ech cls d H' → W cls d σ' H') ∧ σ[0]? = some (some (.ref f)) ∧ H c' = some (LamX.CodeO c' q) ∧ tl Ech H D.rt)
      rfl rfl S.nd rfl (S.loc "e" (by simp [tN])).1 ⟨hgl, by decide, .inl (by show X.mg _ = _; rw [emg]; exact hmt)⟩ LamX.takes0 (fun W pn xe tk _ => ?_) (fun a oe cls d pn hz hf => ?_)), ?_⟩
    · refine ⟨fun pins s' σ H' D I h' => ?_⟩
      obtain ⟨Ech, hW, h1, h2, h3⟩ := h'
      have hp := act W pn xe Ech p1 p2 tk hW
      have hq := pss_one (ps_ret (pos := p3) hp)
      exact hq.run pins s' σ H' D I ⟨h1, h2, h3⟩
    · refine suite_ok (X := (cxOf C8.CX0 X.prog X.w X.K X.mg X.base (tN wn) x sg g cdv X.A X.stack s H C8.E0).nox) SS rfl ?_ hz hf hsu
      have := hroom.un
      show X.A.units + 3 + 100 < cLine
      omega
    · refine ⟨EchZ W Q, fun cls d σ' H' he => ?_, rfl, hco, h⟩
      obtain ⟨c, w, fo, v, rfl, hw, g1, g2, g3⟩ := he
      obtain ⟨j, T, ew', rfl⟩ := hc c w fo hw
      refine ⟨true, by rw [eK]; exact T.te, fun _ a ha => ⟨fun hl => ?_, W.ca c, j, v, rfl, by rw [eK]; exact T, g1, g2, fun H'' p hm hp => ?_⟩, fun z => by cases z⟩
      · rw [List.length_set] at hl
        exact List.getElem?_set_self (by omega)
      · rw [← ew']
        exact g3 H'' p hm hp
  · cases hb
end Z
/-! the end: tables; a live script is frozen -/
namespace Z
open PySem L2 PySem.Spec PyProof.Rows
/-- the law's promise, whatever the script's list is -/
def spLawL (T : List (Addr × Str)) (K : PySem.W.Frag) : Sp := fun vs H Q _ => ∃ (a : Addr) (ns : List Int), vs = [.ref a] ∧ (∀ p ∈ T, H p.1 = some (.tbl #[])) ∧ SqL K H a (ns.map V.int) ∧ ns.length ≤ 63 ∧ ∀ H', Q (.bl true) H'
theorem freeze_hok {P : Program} {w : World} {H : Hp} {h : Heap} {a : Addr} {o : Obj} {xs : List V} (k : HOk P w H h) (ha : H a = some (.lst xs)) (ho : h.get? a = some o) : HOk P w (upd H a (.frz o (.lst xs))) h := fun b u hb => by
  have ne : ∀ c (v : HO), H c = some v → (∀ ys, v ≠ .lst ys) → upd H a (.frz o (.lst xs)) c = some v := fun c v e n => by
    rw [upd_ne fun z => by rw [z, ha] at e; cases e; exact n _ rfl]; exact e
  by_cases hba : b = a
  · subst hba
    rw [upd_same] at hb
    cases hb
    exact ⟨ho, k b _ ha⟩
  · rw [upd_ne hba] at hb
    exact (k b u hb).stay (fun _ _ _ z => z) (fun c z => ne c _ z fun _ z => HO.noConfusion z) fun c ys z => ne c _ z fun _ z => HO.noConfusion z
theorem thaw_hok {P : Program} {w : World} {H : Hp} {h : Heap} {a : Addr} {o : Obj} {xs : List V} (k : HOk P w H h) (ha : H a = some (.frz o (.lst xs))) : HOk P w (upd H a (.lst xs)) h := fun b u hb => by
  have ne : ∀ c (v : HO), H c = some v → (∀ x y, v ≠ .frz x y) → upd H a (.lst xs) c = some v := fun c v e n => by
    rw [upd_ne fun z => by rw [z, ha] at e; cases e; exact n _ _ rfl]; exact e
  by_cases hba : b = a
  · subst hba
    rw [upd_same] at hb
    cases hb
    exact (k b _ ha).2
  · rw [upd_ne hba] at hb
    exact (k b u hb).stay (fun _ _ _ z => z) (fun c z => ne c _ z fun _ _ z => HO.noConfusion z) fun c ys z => ne c _ z fun _ _ z => HO.noConfusion z
theorem law_okL {P : Program} {w : World} {K : PySem.W.Frag} {mg : Str → Option Value} {base : Heap} {k : Nat} {fa : Addr} {fd : FuncData} {x : Str} {T : List (Addr × Str)} (F : FnOk P w K mg base (L2.CX P w) k fa fd [x] (spLaw T K)) :
    FnOk P w K mg base (L2.CX P w) k fa fd [x] (spLawL T K) := by
  refine ⟨fun vs H Q E h => ?_, fun A outer s H args us vs Q E hr e0 hb hv hs => ?_⟩
  · obtain ⟨a, ns, rfl, _⟩ := h; rfl
  · obtain ⟨a, ns, rfl, hT, hq, hl, q⟩ := hs
    rcases hq with (h | h) | h
    · obtain ⟨_, its, n, _, ho⟩ := e0.hok a _ h
      let o : Obj := { cls := .type "list", data := .seq its.toArray n }
      let H1 := upd H a (.frz o (.lst (ns.map V.int)))
      have an : ∀ b, H b = none → b ≠ a := fun b e z => by rw [z, h] at e; cases e
      have e1 : Env0 P w K mg base A outer s H1 := ⟨e0.frames, e0.mod, fun b u e => ⟨(e0.bs b u e).1, by rw [show H1 b = H b from upd_ne (an b (e0.bs b u e).2)]; exact (e0.bs b u e).2⟩, e0.bsz, e0.funs,
        fun b hb => by rw [show H1 b = H b from upd_ne (an b (e0.frf b hb))]; exact e0.frf b hb, freeze_hok e0.hok h ho, e0.bare⟩
      have z := F.run A outer s H1 args us [.ref a] (fun v _ => v = .bl true) (fun _ _ _ => False) hr e1 hb hv ⟨a, ns, rfl, fun p hp => by
        rw [show H1 p.1 = H p.1 from upd_ne fun z => by have := hT p hp; rw [z, h] at this; cases this]; exact hT p hp, .inl ⟨o, upd_same⟩, hl, fun _ => rfl⟩
      refine codeAny_mono z fun r s' hq => ?_
      cases r with
      | error e =>
        obtain ⟨_, _, _, _, _, _, _, _, _, _, _, _, z⟩ := hq
        exact z.elim
      | ok f =>
        cases f with
        | ret u =>
          obtain ⟨v, H2, h1, h2, h3, h4, h5, h6⟩ := hq
          subst h6
          have ha2 : H2 a = some (.frz o (.lst (ns.map V.int))) := h3.frzs a _ _ upd_same
          have at1 : ∀ b u, H b = some u → (∀ ys, u ≠ .lst ys) → H1 b = some u ∧ b ≠ a := fun b u e n => by
            have ne : b ≠ a := fun z => by rw [z, h] at e; cases e; exact n _ rfl
            exact ⟨by rw [show H1 b = H b from upd_ne ne]; exact e, ne⟩
          refine ⟨.bl true, upd H2 a (.lst (ns.map V.int)), h1, h2, ⟨fun b u e n nb nx => h3.keep b u e (by rw [show H1 b = H b from upd_ne (an b n)]; exact n) nb nx, fun b u e n nb nx => h3.slot b u e (by rw [show H1 b = H b from upd_ne (an b n)]; exact n) nb nx,
            fun b u e n nx => ?_, h3.there, fun b ys e => ?_, fun b u v e => ?_, fun b ps e => ?_⟩, thaw_hok h4 ha2, h5, q _⟩
          · rw [upd_ne (an b n)]
            exact h3.free b u e (by rw [show H1 b = H b from upd_ne (an b n)]; exact n) nx
          · obtain ⟨g1, g2⟩ := at1 b _ e fun _ z => HO.noConfusion z
            rw [upd_ne g2]; exact h3.tups b ys g1
          · obtain ⟨g1, g2⟩ := at1 b _ e fun _ z => HO.noConfusion z
            rw [upd_ne g2]; exact h3.frzs b u v g1
          · obtain ⟨g1, g2⟩ := at1 b _ e fun _ z => HO.noConfusion z
            rw [upd_ne g2]; exact h3.tbls b ps g1
        | next => exact hq.elim
        | brk => exact hq.elim
        | cont => exact hq.elim
    · exact F.run A outer s H args us [.ref a] Q E hr e0 hb hv ⟨a, ns, rfl, hT, .inl h, hl, q⟩
    · exact F.run A outer s H args us [.ref a] Q E hr e0 hb hv ⟨a, ns, rfl, hT, .inr h, hl, q⟩
/-- the empty tables of the defs that the top has made -/
def TabsOf (q : Program) (mg : Str → Option Value) (h : Heap) : Prop := ∀ d ∈ recsOf q, ∃ (a : Addr) (o : Obj) (fd : FuncData) (c P : Addr), mg d.name = some (.ref a) ∧ h.get? a = some o ∧ o.data = .func fd ∧ fd.code = .ref c ∧ PySem.W.CodeHd h c P ∧ h.get? P = some { cls := .none, data := .fields #[] }
/-- the written part holds no empty table -/
def noTabB (K : PySem.W.Frag) : Bool := K.all fun p => match p.2.data with | .fields vs => vs.size != 0 | _ => true
theorem memK {o : Obj} {P : Addr} : ∀ {K : PySem.W.Frag}, K.lookup P = some o → (P, o) ∈ K
  | [], h => by cases h
  | (a, b) :: r, h => by
    rw [List.lookup] at h
    split at h
    · rename_i z
      cases h
      rw [show P = a from by simpa using z]
      exact List.mem_cons_self
    · exact List.mem_cons_of_mem _ (memK h)
theorem noTab {K : PySem.W.Frag} {h : Heap} (hK : noTabB K = true) (X : K.In h) {P : Addr} (hP : h.get? P = some { cls := .none, data := .fields #[] }) : K.lookup P = none := by
  cases e : K.lookup P with
  | none => rfl
  | some o =>
    have e1 := X P o e
    rw [hP] at e1
    cases e1
    have e2 := List.all_eq_true.mp hK (P, _) (memK e)
    simp at e2
def recB (q : Program) (x : Str) : Bool := (recsOf q).any fun e => e.name == x
theorem tabOf {q : Program} {mg : Str → Option Value} {h : Heap} {K : PySem.W.Frag} {f : Addr} {x qual : Str} {params : Arguments} {body : List Stmt} {sc : Scope} {dV kV doc pm cdv ct oc : Value} {an od : Option Addr} {osl : Array (Option Value)} (t : TabsOf q mg h) (X : K.In h) (hr : recB q x = true) (hm : mg x = some (.ref f))
    (hl : K.lookup f = some ⟨oc, od, .func (PySem.W.fnOf x qual params body sc dV kV doc pm an cdv ct), osl⟩) : ∃ c P, cdv = .ref c ∧ PySem.W.CodeHd h c P ∧ h.get? P = some { cls := .none, data := .fields #[] } := by
  obtain ⟨d, hd, hn⟩ := List.any_eq_true.mp hr
  have hn : d.name = x := beq_iff_eq.mp hn
  obtain ⟨a, o, fd, c, P, h1, h2, h3, h4, h5, h6⟩ := t d hd
  rw [hn, hm] at h1
  cases h1
  rw [X f _ hl] at h2
  cases h2
  cases h3
  exact ⟨c, P, h4, h5, h6⟩
theorem tab_uniq : ∀ {T : List (Addr × Str)}, (T.map (·.1)).Nodup → ∀ {a : Addr} {x : Str}, (a, x) ∈ T → ∀ p ∈ T, p.1 = a → p.2 = x
  | [], _, a, x, hm, p, hp, e => by cases hp
  | t :: T, h, a, x, hm, p, hp, e => by
    rw [List.map_cons, List.nodup_cons] at h
    obtain ⟨h1, h2⟩ := h
    cases List.mem_cons.mp hp with
    | inl q =>
      cases List.mem_cons.mp hm with
      | inl q' => rw [q, ← q']
      | inr q' => exact absurd (List.mem_map.mpr ⟨(a, x), q', by rw [← q, e]⟩) h1
    | inr q =>
      cases List.mem_cons.mp hm with
      | inl q' => exact absurd (List.mem_map.mpr ⟨p, q, by rw [← q', e]⟩) h1
      | inr q' => exact tab_uniq h2 q' p q e
/-- the table that a written code object names -/
theorem tabK_eq {K : PySem.W.Frag} {h : Heap} {c P T : Addr} {o : Value} {dd : Option Addr} {vs : Array Value} {sl : Array (Option Value)} (X : K.In h) (e : K.lookup c = some ⟨o, dd, .fields vs, sl⟩) (e2 : (vs[11]? : Option Value) = some (.ref T)) (C : PySem.W.CodeHd h c P) : P = T := by
  obtain ⟨o', vs', file, tf, flags, tg, inF, text, tt, h1, h2, h3, h4, _⟩ := C
  have h5 := X c _ e
  rw [h1] at h5
  cases h5
  cases h3
  rw [h4] at e2
  cases e2
  rfl
theorem walk_tabs {l : PySem.W.OpenLaw} {n k : Nat} {q : Program} {loose : List Str} {XP : (Str → Option Value) → Heap → Prop} {YP : World → Heap → Prop} {d : DefRec} {K : Params → PySem.W.Frag} {x : Str}
    (hn : l.most = some n) (hn2 : n ≤ sizeLine) (hdf : d.params.defaults = []) (hr : Room k callerA) (hY : ∀ (w : World) (h : Heap), YP w h → (K w.params).In h)
    (F : ∀ (w : World) (mg : Str → Option Value) (fa : Addr) (h : Heap), (K w.params).In h → h.Ns mainGlobals mg → mg d.name = some (.ref fa) → TabsOf q mg h → LamX.LawAtS l w (K w.params) (L2.CX l.prog w) k n x mg fa h) :
    PySem.W.WalkO q loose XP YP l.row.toRowW d [] (fun g us => PySem.call g us) := by
  refine Att.attach_callB hn hdf fun w s₀ s₁ mg mb fa o pm cd doc a vs ns G Y ho hd hcd hmg hobj hints hlen hbits hg => ?_
  have KX := hY w _ Y
  obtain ⟨fd, cs, sp, hT, nT, C, hb, hsp, hF⟩ := F w mg fa _ KX G.T.g hmg fun e he => by
    obtain ⟨a', o', fd', c', P', h1, h2, h3, h4, h5, h6⟩ := G.T.tab e he
    exact ⟨a', o', fd', c', P', h1, h2, h3, h4, .of h5 h6, h6.2⟩
  refine LamX.law_callTs KX G.T.g G.T.b G.T.builtins G.T.nolimit hg hT nT C G.T.bmain hobj hints (Nat.le_trans hlen hn2) hr hF hb (fun H hH hS => hsp H a ns hlen hbits hH hS) fun H e s' z => ?_
  obtain ⟨_, _, _, _, _, _, _, _, _, _, _, _, z⟩ := z
  exact z
/-! ### own exception classes, by what the written part says of them -/
structure EF (K : PySem.W.Frag) (TA C : Addr) : Prop where
  ga : PySem.W.findIn K (.ref C) "__getattribute__" = some (some (.builtin "BaseException.__getattribute__"))
  gg : PySem.W.findIn K (.ref C) "__getattr__" = some none
  sb : PySem.W.subIn K (.ref C) (.type "BaseException") = some true
  hd : PySem.W.hasDictIn K C = true
  cl : PySem.W.findIn K (.ref C) "__class__" = some (some (.builtin "object.__class__"))
  hn : PySem.W.specialIn K (.builtin "object.__class__") "__get__" = some (some (.builtin "getset_descriptor.__get__"))
  ht : PySem.W.takesIn K (.builtin "object.__class__") = some true
  mo : PySem.W.mroIn K C (.type "object") = some true
  np : PySem.W.findIn K (.ref C) "place" = some none
  nn : PySem.W.findIn K (.ref C) "number" = some none
  sv : PySem.W.subIn K (.ref C) (.type "ValueError") = some true
  st : PySem.W.subIn K (.ref C) (.ref TA) = some true
  iT : PySem.W.isClsIn K TA = true
  tT : PySem.W.typeIn K (.ref TA) = some (.type "type")
  bT : PySem.W.subIn K (.ref TA) (.type "BaseException") = some true
theorem kitCls_of {K : PySem.W.Frag} {t : Value} {E : Addr} {b : Bool} (h2 : PySem.W.isClsIn K E = true) (h3 : PySem.W.typeIn K (.ref E) = some (.type "type")) (h4 : PySem.W.subIn K t (.ref E) = some b) : PySem.W.kitCls K t (.ref E) = some b := by
  have e2 : ((PySem.W.clsIn K E).isSome && PySem.W.typeIn K (.ref E) == some (.type "type")) = true := by
    have h2' : (PySem.W.clsIn K E).isSome = true := h2
    rw [h2', h3] <;> rfl
  unfold PySem.W.kitCls
  exact (if_pos e2).trans h4
theorem kit_ne {K : PySem.W.Frag} {C E : Addr} (n : (C == E) = false) (h2 : PySem.W.isClsIn K E = true) (h3 : PySem.W.typeIn K (.ref E) = some (.type "type")) (h4 : PySem.W.subIn K (.ref C) (.ref E) = some false) : PySem.W.kitOne K (.ref C) (.ref E) = some false := by
  unfold PySem.W.kitOne
  have n' : (Value.ref C == Value.ref E) = false := by
    rw [beq_eq_false_iff_ne] at n ⊢
    intro z; cases z; exact n rfl
  rw [n']
  exact kitCls_of h2 h3 h4
theorem kit_self {K : PySem.W.Frag} {C : Addr} : PySem.W.kitOne K (.ref C) (.ref C) = some true := by
  unfold PySem.W.kitOne
  rw [if_pos (by simp)]
theorem EF.tc {K : PySem.W.Frag} {TA C : Addr} {E : Nat → Addr} {j : Nat} (f : EF K TA C) (lt : j < 9) (is : ∀ i, i < 9 → PySem.W.kitOne K (.ref C) (.ref (E i)) = some (decide (i = j))) : TC K E TA C j := by
  refine ⟨lt, ⟨f.ga, f.gg, f.sb, f.hd, f.cl, f.hn, f.ht, f.mo⟩, is, ?_, ?_, ⟨f.ga, f.gg, f.sb, f.hd⟩, f.np, f.nn⟩
  · unfold PySem.W.kitOne
    have e1 : (Value.ref C == Value.type "ValueError") = false := by simp
    have e2 : PySem.W.kitMeta "ValueError" = true := by decide +kernel
    rw [e1]
    show (if PySem.W.kitMeta "ValueError" = true then PySem.W.subIn K (.ref C) (.type "ValueError") else none) = some true
    rw [if_pos e2]
    exact f.sv
  · unfold PySem.W.exmOne
    rw [f.bT]
    exact kitCls_of f.iT f.tT f.st
end Z
/-! Z: evaluation by simp: rows common to all laws -/
namespace Z
@[simp] theorem R_bind_ok {α β : Type} (a : α) (st : Sto) (f : α → Sto → R β) : (R.ok a st).bind f = f a st := (rfl)
@[simp] theorem R_bind_stuck {α β : Type} (f : α → Sto → R β) : (R.stuck : R α).bind f = .stuck := (rfl)
@[simp] theorem R_sbind_ok {α : Type} (ρ : Env) (a : α) (st : Sto) (f : α → Sto → SR) : (R.ok a st).sbind ρ f = f a st := (rfl)
@[simp] theorem R_noex_ok {α : Type} (a : α) (st : Sto) : (R.ok a st).noex = .ok a st := (rfl)
@[simp] theorem bOf_bl (st : Sto) (b : Bool) : bOf st (.bl b) = .ok b st := (rfl)
@[simp] theorem iOf_int (st : Sto) (b : Int) : iOf st (.int b) = .ok b st := (rfl)
@[simp] theorem ofO_some {α : Type} (st : Sto) (a : α) : ofO st (some a) = .ok a st := (rfl)
@[simp] theorem SR_then_nx (ρ : Env) (st : Sto) (f : Env → Sto → SR) : (SR.ok .nx ρ st).then f = f ρ st := (rfl)
@[simp] theorem SR_then_rt (d : D) (ρ : Env) (st : Sto) (f : Env → Sto → SR) : (SR.ok (.rt d) ρ st).then f = .ok (.rt d) ρ st := (rfl)
@[simp] theorem SR_turn_nx (ρ : Env) (st : Sto) (f : Env → Sto → SR) : (SR.ok .nx ρ st).turn f = f ρ st := (rfl)
@[simp] theorem SR_turn_rt (d : D) (ρ : Env) (st : Sto) (f : Env → Sto → SR) : (SR.ok (.rt d) ρ st).turn f = .ok (.rt d) ρ st := (rfl)
@[simp] theorem runB_nx (ρ : Env) (st : Sto) : runB (.ok .nx ρ st) = .ok .non st := (rfl)
@[simp] theorem runB_rt (d : D) (ρ : Env) (st : Sto) : runB (.ok (.rt d) ρ st) = .ok d st := (rfl)
@[simp] theorem cl_call (pr : Prog) (F k : Nat) : (pr.cl F k).call = pr.call F k := (rfl)
@[simp] theorem cl_tw (pr : Prog) (F k : Nat) : (pr.cl F k).tw = pr.tw := (rfl)
@[simp] theorem cl_ini (pr : Prog) (F k : Nat) : (pr.cl F k).ini = pr.ini := (rfl)
@[simp] theorem cl_meth (pr : Prog) (F k : Nat) : (pr.cl F k).meth = pr.meth := (rfl)
theorem call_eq (pr : Prog) (F k : Nat) {f : Nat} {ds : List D} {st : Sto} {fi : FnIR} (h : pr.fns[f]? = some fi) (hn : ds.length = fi.np) (hl : fi.lm = false := by rfl) :
    pr.call F (k + 1) f ds st = finish st (runB (evSs (pr.cl F k) F fi.body (ds.map some ++ List.replicate (fi.nl - fi.np) none) st)) := by
  have e : pr.call F (k + 1) f = pr.step F (pr.cl F k) f := by
    have hb : pr.lam f = false := by unfold Prog.lam; rw [h]; exact hl
    cases k with
    | zero => simp only [Prog.call]; rw [if_neg (by rw [hb]; decide)]; rfl
    | succ k => simp only [Prog.call]; rw [if_neg (by rw [hb]; decide)]; rfl
  rw [e]
  unfold Prog.step
  rw [h]
  simp only
  rw [if_pos hn]
/-- a def that tells of works takes two levels -/
theorem call_eq2 (pr : Prog) (F k : Nat) {f : Nat} {ds : List D} {st : Sto} {fi : FnIR} (h : pr.fns[f]? = some fi) (hn : ds.length = fi.np) (hl : fi.lm = true := by rfl) :
    pr.call F (k + 2) f ds st = finish st (runB (evSs (pr.cl F k) F fi.body (ds.map some ++ List.replicate (fi.nl - fi.np) none) st)) := by
  have e : pr.call F (k + 2) f = pr.step F (pr.cl F k) f := by
    have hb : pr.lam f = true := by unfold Prog.lam; rw [h]; exact hl
    simp only [Prog.call]; rw [if_pos hb]; rfl
  rw [e]
  unfold Prog.step
  rw [h]
  simp only
  rw [if_pos hn]
theorem reach_old {n0 : Nat} {st : Sto} : ∀ (f : Nat) (todo acc : List Nat), todo.all (fun k => decide (k < n0)) = true → reach n0 st f todo acc = acc
  | 0, _, _, _ => rfl
  | _ + 1, [], _, _ => rfl
  | f + 1, k :: todo, acc, h => by
    rw [List.all_cons, Bool.and_eq_true, decide_eq_true_eq] at h
    rw [reach, if_pos (.inl h.1)]
    exact reach_old f todo acc h.2
mutual
theorem rnD_id {g : Nat → Nat} {p : Nat → Bool} (hg : ∀ k, p k = true → g k = k) : ∀ {d : D}, (locsD d).all p = true → rnD g d = d
  | .non, _ => rfl
  | .bl _, _ => rfl
  | .int _, _ => rfl
  | .str _, _ => rfl
  | .tup ds, c => by rw [locsD] at c; rw [rnD, rnDs_id hg c]
  | .loc k, c => by rw [rnD, hg k (by simpa [locsD] using c)]
  | .fl ds, c => by rw [locsD] at c; rw [rnD, rnDs_id hg c]
theorem rnDs_id {g : Nat → Nat} {p : Nat → Bool} (hg : ∀ k, p k = true → g k = k) : ∀ {d : List D}, (locsDs d).all p = true → rnDs g d = d
  | [], _ => rfl
  | d :: ds, c => by
    rw [locsDs, List.all_append, Bool.and_eq_true] at c
    rw [rnDs, rnD_id hg c.1, rnDs_id hg c.2]
end
theorem rnDs_mp (g : Nat → Nat) : ∀ ds : List D, rnDs g ds = ds.map (rnD g)
  | [] => rfl
  | d :: ds => by rw [rnDs, rnDs_mp g ds]; rfl
theorem kv_id {α : Type} {g : Nat → Nat} {p : Nat → Bool} (hg : ∀ k, p k = true → g k = k) : ∀ {fs : List (α × D)}, (locsDs (fs.map (·.2))).all p = true → fs.map (fun q => (q.1, rnD g q.2)) = fs
  | [], _ => rfl
  | (a, d) :: r, c => by
    rw [List.map_cons, locsDs, List.all_append, Bool.and_eq_true] at c
    rw [List.map_cons, kv_id hg c.2, rnD_id hg c.1]
theorem rnC_id {g : Nat → Nat} {p : Nat → Bool} (hg : ∀ k, p k = true → g k = k) {c : Cell} (h : (locsC c).all p = true) : rnC g c = c := by
  cases c with
  | lst xs => show Cell.lst (rnDs g xs) = _; rw [rnDs_id hg h]
  | ins c fs => show Cell.ins c (fs.map _) = _; rw [kv_id hg h]
  | dct kvs => show Cell.dct (kvs.map _) = _; rw [kv_id hg h]
  | dck kvs => show Cell.dck (kvs.map _) = _; rw [kv_id hg h]
theorem newN_lt {n0 : Nat} {L : List Nat} {k : Nat} (h : decide (k < n0) = true) : newN n0 L k = k := if_pos (of_decide_eq_true h)
theorem okN_lt {n0 : Nat} {L : List Nat} {ks : List Nat} (h : ks.all (fun k => decide (k < n0)) = true) : ks.all (okN n0 L) = true := by
  rw [List.all_eq_true] at h ⊢
  intro k hk
  unfold okN
  rw [h k hk]; rfl
/-- behind a call that tells of nothing new -/
theorem finish_old {st st1 : Sto} {d : D} (ho : OldOk st st1) (h : (locsD d).all (fun k => decide (k < st.length)) = true) : finish st (.ok d st1) = .ok d (st1.take st.length) := by
  show (if OldOk st st1 then gcD st.length (reach st.length st1 40 (locsD d) []) d st1 else _) = _
  rw [if_pos ho, reach_old _ _ _ h]
  unfold gcD
  rw [if_pos ⟨List.nodup_nil, (fun k hk => nomatch hk), okN_lt h⟩, rnD_id (p := fun k => decide (k < st.length)) (fun k hk => newN_lt hk) h]
  simp
/-- .. of one new thing -/
theorem finish_one {st st1 : Sto} {k : Nat} {c : Cell} (ho : OldOk st st1) (hk : st.length ≤ k) (hc : st1[k]? = some c) (h : (locsC c).all (fun k => decide (k < st.length)) = true) : finish st (.ok (.loc k) st1) = .ok (.loc st.length) (st1.take st.length ++ [c]) := by
  show (if OldOk st st1 then gcD st.length (reach st.length st1 40 [k] []) (.loc k) st1 else _) = _
  have hr : reach st.length st1 40 [k] [] = [k] := by
    rw [reach, if_neg (by simp; omega), hc]
    exact reach_old _ _ _ (by simpa using h)
  rw [if_pos ho, hr]
  have hn : ∀ j, decide (j < st.length) = true → newN st.length [k] j = j := fun j hj => newN_lt hj
  unfold gcD
  rw [if_pos ⟨by simp, fun j hj => by
    rw [List.mem_singleton] at hj; subst hj
    exact ⟨hk, by rw [hc, Option.map_some, okN_lt h]⟩, by simp [locsD, okN]⟩]
  have e1 : newN st.length [k] k = st.length := by
    unfold newN
    rw [if_neg (by omega)]; simp
  show R.ok (D.loc (newN st.length [k] k)) (_ ++ [rnC _ (st1[k]?.getD _)]) = _
  rw [e1, hc]
  show R.ok _ (_ ++ [rnC _ c]) = _
  rw [rnC_id hn h]
theorem oldOk_app (st x : Sto) : OldOk st (st ++ x) := fun i hi => .inl (List.getElem?_append_left hi)
theorem oldOk_rfl (st : Sto) : OldOk st st := fun i hi => .inl rfl
theorem finish_same (st : Sto) (d : D) (h : (locsD d).all (fun k => decide (k < st.length)) = true) : finish st (.ok d st) = .ok d st := by
  rw [finish_old (oldOk_rfl st) h, List.take_length]
mutual
theorem clD_locs {n : Nat} : ∀ {d : D}, clD n d = true → (locsD d).all (fun k => decide (k < n)) = true
  | .non, _ => rfl
  | .bl _, _ => rfl
  | .int _, _ => rfl
  | .str _, _ => rfl
  | .tup ds, h => by rw [clD] at h; rw [locsD]; exact clDs_locs h
  | .loc k, h => by rw [clD] at h; simpa [locsD] using h
  | .fl ds, h => by rw [clD] at h; rw [locsD]; exact clDs_locs h
theorem clDs_locs {n : Nat} : ∀ {d : List D}, clDs n d = true → (locsDs d).all (fun k => decide (k < n)) = true
  | [], _ => rfl
  | d :: ds, h => by
    rw [clDs, Bool.and_eq_true] at h
    rw [locsDs, List.all_append, clD_locs h.1, clDs_locs h.2]; rfl
end
theorem all_mono {n n' : Nat} (hn : n ≤ n') {ks : List Nat} (h : ks.all (fun k => decide (k < n)) = true) : ks.all (fun k => decide (k < n')) = true := by
  rw [List.all_eq_true] at h ⊢
  intro k hk
  have := of_decide_eq_true (h k hk)
  exact decide_eq_true (by omega)
@[simp] theorem finish_st (st : Sto) (d : D) (h : clD 0 d = true) : finish st (.ok d st) = .ok d st := finish_same st d (all_mono (Nat.zero_le _) (clD_locs h))
/-- a call that made new things alone, and hands back data -/
@[simp] theorem finish_new (st x : Sto) (d : D) (h : clD 0 d = true) : finish st (.ok d (st ++ x)) = .ok d st := by
  rw [finish_old (oldOk_app st x) (all_mono (Nat.zero_le _) (clD_locs h)), List.take_left' rfl]
/-- a call that made new things alone, and hands back one of them -/
theorem finish_newL (st x : Sto) {j : Nat} {c : Cell} (hc : x[j]? = some c) (h : (locsC c).all (fun k => decide (k < st.length)) = true) : finish st (.ok (.loc (st.length + j)) (st ++ x)) = .ok (.loc st.length) (st ++ [c]) := by
  rw [finish_one (oldOk_app st x) (by omega) (by rw [List.getElem?_append_right (by omega), Nat.add_sub_cancel_left]; exact hc) h, List.take_left' rfl]
/-- what stays from st to st', but at the places S -/
structure Keep (S : List Nat) (st st' : Sto) : Prop where
  le : st.length ≤ st'.length
  at_ : ∀ i, i < st.length → i ∉ S → st'[i]? = st[i]?
theorem Keep.refl (S : List Nat) (st : Sto) : Keep S st st := ⟨Nat.le_refl _, fun _ _ _ => rfl⟩
theorem Keep.trans {S : List Nat} {a b c : Sto} (h : Keep S a b) (g : Keep S b c) : Keep S a c := ⟨Nat.le_trans h.le g.le, fun i hi hn => (g.at_ i (Nat.lt_of_lt_of_le hi h.le) hn).trans (h.at_ i hi hn)⟩
theorem Keep.mono {S T : List Nat} {a b : Sto} (h : Keep S a b) (s : ∀ i ∈ S, i ∈ T) : Keep T a b := ⟨h.le, fun i hi hn => h.at_ i hi fun z => hn (s i z)⟩
theorem Keep.app (S : List Nat) (st x : Sto) : Keep S st (st ++ x) := ⟨by simp, fun i hi _ => List.getElem?_append_left hi⟩
theorem Keep.set {S : List Nat} {st : Sto} {n : Nat} {c : Cell} (h : n ∈ S) : Keep S st (st.set n c) := ⟨by simp, fun i hi hn => List.getElem?_set_ne fun e => hn (by rw [← e]; exact h)⟩
theorem Keep.get {S : List Nat} {st st' : Sto} (h : Keep S st st') {i : Nat} {c : Cell} (e : st[i]? = some c) (hn : i ∉ S) : st'[i]? = some c := by
  rw [h.at_ i (List.getElem?_eq_some_iff.mp e).1 hn]; exact e
theorem lt_of_at {st : Sto} {i : Nat} {c : Cell} (e : st[i]? = some c) : i < st.length := (List.getElem?_eq_some_iff.mp e).1
theorem app_at {st : Sto} {i : Nat} {c : Cell} (x : Sto) (e : st[i]? = some c) : (st ++ x)[i]? = some c := by
  rw [List.getElem?_append_left (lt_of_at e)]; exact e
theorem set_at {st : Sto} {i n : Nat} {c c' : Cell} (e : st[i]? = some c) (h : n ≠ i) : (st.set n c')[i]? = some c := by
  rw [List.getElem?_set_ne h]; exact e
theorem set_here {st : Sto} {i : Nat} {c c' : Cell} (e : st[i]? = some c) : (st.set i c')[i]? = some c' := List.getElem?_set_self (lt_of_at e)
/-- the end of a call that changed the places S -/
theorem finish_keep {st st1 : Sto} {d : D} {S : List Nat} (h : clD 0 d = true) (k : Keep S st st1) (hc : ∀ i ∈ S, ∃ c, st1[i]? = some c ∧ clC st.length c = true) :
    ∃ st', finish st (.ok d st1) = .ok d st' ∧ Keep S st st' ∧ st'.length = st.length ∧ ∀ i, i < st.length → st'[i]? = st1[i]? := by
  refine ⟨st1.take st.length, ?_, ⟨by rw [List.length_take]; have := k.le; omega, fun i hi hn => ?_⟩, by rw [List.length_take]; have := k.le; omega, fun i hi => ?_⟩
  · refine finish_old (fun i hi => ?_) (all_mono (Nat.zero_le _) (clD_locs h))
    by_cases hs : i ∈ S
    · obtain ⟨c, e, q⟩ := hc i hs
      exact .inr (by rw [e]; simp [q])
    · exact .inl (k.at_ i hi hs)
  · rw [List.getElem?_take_of_lt hi]; exact k.at_ i hi hn
  · exact List.getElem?_take_of_lt hi
theorem Keep.setN {S : List Nat} {st st1 : Sto} {n : Nat} {c : Cell} (k : Keep S st st1) (h : st.length ≤ n) : Keep S st (st1.set n c) := ⟨by simp [k.le], fun i hi hn => by rw [List.getElem?_set_ne (by omega)]; exact k.at_ i hi hn⟩
theorem Keep.appN {S : List Nat} {st st1 : Sto} (k : Keep S st st1) (x : Sto) : Keep S st (st1 ++ x) := k.trans (Keep.app S st1 x)
/-- a call that changed nothing that stood -/
theorem finish_pure {st st1 : Sto} {d : D} (h : clD 0 d = true) (k : Keep [] st st1) : finish st (.ok d st1) = .ok d st := by
  obtain ⟨st', e, k', l, at_⟩ := finish_keep (S := []) h k (fun i hi => by simp at hi)
  rw [e]
  congr 1
  refine List.ext_getElem? fun i => ?_
  by_cases hi : i < st.length
  · exact k'.at_ i hi (by simp)
  · rw [List.getElem?_eq_none (by omega), List.getElem?_eq_none (by omega)]
@[simp] theorem clDs_ints (n : Nat) : ∀ ns : List Int, clDs n (ns.map D.int) = true
  | [] => rfl
  | x :: xs => by rw [List.map_cons, clDs, clDs_ints n xs]; rfl
end Z
namespace Z
/-! ### evaluation, rule by rule -/
section
variable {C : Cl} {ρ : Env} {st s1 s2 s3 : Sto} {a b c i : IE} {es r : IEs} {d x y : D} {ds xs : List D} {k j : Bool}
theorem e_var {n : Nat} (h : ρ[n]? = some (some d)) : ev C (.var n) ρ st = .ok d st := by rw [ev, h]
theorem e_cst : ev C (.cst d) ρ st = .ok d st := by rw [ev]
theorem e_gl : ev C (.gl d) ρ st = .ok d st := by rw [ev]
theorem e_tup (h : evs C es ρ st = .ok ds s1) (hl : ds.length ≤ 1000) : ev C (.tup es) ρ st = .ok (.tup ds) s1 := by
  rw [ev, h, R_bind_ok, if_pos (Nat.le_trans hl (by decide))]
theorem e_lst (h : evs C es ρ st = .ok ds s1) (hl : ds.length ≤ 1000) : ev C (.lst es) ρ st = .ok (.loc s1.length) (s1 ++ [.lst ds]) := by
  rw [ev, h, R_bind_ok, if_pos (Nat.le_trans hl (by decide))]
theorem e_bin {o : BOp} (h1 : ev C a ρ st = .ok x s1) (h2 : ev C b ρ s1 = .ok y s2) (h3 : binD o x y s2 = .ok d s3) : ev C (.bin o a b) ρ st = .ok d s3 := by
  rw [ev, h1, R_bind_ok, h2, R_bind_ok, h3]
theorem e_cmp {o : COp} (h1 : ev C a ρ st = .ok x s1) (h2 : ev C b ρ s1 = .ok y s2) (h3 : cmpD o x y s2 = .ok d s3) : ev C (.cmp o a b) ρ st = .ok d s3 := by
  rw [ev, h1, R_bind_ok, h2, R_bind_ok, h3]
theorem e_and (h1 : ev C a ρ st = .ok (.bl k) s1) (h2 : k = true → ev C b ρ s1 = .ok (.bl j) s1) : ev C (.and a b) ρ st = .ok (.bl (k && j)) s1 := by
  rw [ev, h1, R_bind_ok, bOf_bl, R_bind_ok]
  cases k with
  | true => rw [if_pos rfl, h2 rfl]; rfl
  | false => rfl
theorem e_or (h1 : ev C a ρ st = .ok (.bl k) s1) (h2 : k = false → ev C b ρ s1 = .ok (.bl j) s1) : ev C (.or a b) ρ st = .ok (.bl (k || j)) s1 := by
  rw [ev, h1, R_bind_ok, bOf_bl, R_bind_ok]
  cases k with
  | false => rw [if_neg Bool.false_ne_true, h2 rfl]; rfl
  | true => rfl
theorem e_andF (h1 : ev C a ρ st = .ok (.bl false) s1) : ev C (.and a b) ρ st = .ok (.bl false) s1 := by
  rw [ev, h1, R_bind_ok, bOf_bl, R_bind_ok]; rfl
theorem e_andT (h1 : ev C a ρ st = .ok (.bl true) s1) (h2 : ev C b ρ s1 = .ok (.bl j) s2) : ev C (.and a b) ρ st = .ok (.bl j) s2 := by
  rw [ev, h1, R_bind_ok, bOf_bl, R_bind_ok, if_pos rfl, h2]; rfl
theorem e_orT (h1 : ev C a ρ st = .ok (.bl true) s1) : ev C (.or a b) ρ st = .ok (.bl true) s1 := by
  rw [ev, h1, R_bind_ok, bOf_bl, R_bind_ok]; rfl
theorem e_orF (h1 : ev C a ρ st = .ok (.bl false) s1) (h2 : ev C b ρ s1 = .ok (.bl j) s2) : ev C (.or a b) ρ st = .ok (.bl j) s2 := by
  rw [ev, h1, R_bind_ok, bOf_bl, R_bind_ok, if_neg Bool.false_ne_true, h2]; rfl
theorem e_not (h1 : ev C a ρ st = .ok (.bl k) s1) : ev C (.not a) ρ st = .ok (.bl (!k)) s1 := by
  rw [ev, h1, R_bind_ok, bOf_bl, R_bind_ok]
theorem e_iteT (h1 : ev C c ρ st = .ok (.bl true) s1) (h2 : ev C a ρ s1 = .ok d s2) : ev C (.ite c a b) ρ st = .ok d s2 := by
  rw [ev, h1, R_bind_ok, bOf_bl, R_bind_ok, if_pos rfl, h2]
theorem e_iteF (h1 : ev C c ρ st = .ok (.bl false) s1) (h2 : ev C b ρ s1 = .ok d s2) : ev C (.ite c a b) ρ st = .ok d s2 := by
  rw [ev, h1, R_bind_ok, bOf_bl, R_bind_ok, if_neg Bool.false_ne_true, h2]
theorem e_ix (h1 : ev C a ρ st = .ok x s1) (h2 : ev C i ρ s1 = .ok y s2) (h3 : ixD x y s2 = .ok d s3) : ev C (.ix a i) ρ st = .ok d s3 := by
  rw [ev, h1, R_bind_ok, h2, R_bind_ok, h3]
theorem e_sl {lo hi : IO} {l h : Option Int} {s4 : Sto} (h1 : ev C a ρ st = .ok x s1) (h2 : evO C lo ρ s1 = .ok l s2) (h3 : evO C hi ρ s2 = .ok h s3) (h4 : slD x l h s3 = .ok d s4) : ev C (.sl a lo hi) ρ st = .ok d s4 := by
  rw [ev, h1, R_bind_ok, h2, R_bind_ok, h3, R_bind_ok, h4]
theorem e_on : evO C .none ρ st = .ok none st := by rw [evO]
theorem e_os {n : Int} (h1 : ev C a ρ st = .ok (.int n) s1) : evO C (.some a) ρ st = .ok (some n) s1 := by rw [evO, h1, R_bind_ok, iOf_int]; rfl
theorem e_rev (h1 : ev C a ρ st = .ok x s1) (h3 : revD x s1 = .ok d s3) : ev C (.rev a) ρ st = .ok d s3 := by rw [ev, h1, R_bind_ok, h3]
theorem e_fld {f : PySem.Str} (h1 : ev C a ρ st = .ok x s1) (h3 : fldD x f s1 = .ok d s3) : ev C (.fld a f) ρ st = .ok d s3 := by rw [ev, h1, R_bind_ok, h3]
theorem e_isi {kd : Kd} (h1 : ev C a ρ st = .ok x s1) (h3 : isiD x kd s1 = .ok d s3) : ev C (.isi a kd) ρ st = .ok d s3 := by rw [ev, h1, R_bind_ok, h3]
theorem e_bi {o : Bi} (h1 : ev C a ρ st = .ok x s1) (h3 : biD o x s1 = .ok d s3) : ev C (.bi o a) ρ st = .ok d s3 := by rw [ev, h1, R_bind_ok, h3]
theorem e_call {f : Nat} (h1 : evs C es ρ st = .ok ds s1) (h2 : C.call f ds s1 = .ok d s2) : ev C (.call f es) ρ st = .ok d s2 := by rw [ev, h1, R_bind_ok, h2]
theorem e_mk {cn f : Nat} (h1 : evs C es ρ st = .ok ds s1) (hf : C.ini cn = some f) (h2 : C.call f (.loc s1.length :: ds) (s1 ++ [.ins cn []]) = .ok .non s2) : ev C (.mk cn es) ρ st = .ok (.loc s1.length) s2 := by
  rw [ev, h1, R_bind_ok, hf]
  show R.bind (C.call f (.loc s1.length :: ds) (s1 ++ [.ins cn []])) _ = _
  rw [h2]; rfl
theorem e_me0 {me : Me} (h1 : ev C a ρ st = .ok x s1) (h2 : recvOk me s1 x = true) (h3 : me0D me x s1 = .ok d s2) : ev C (.me0 me a) ρ st = .ok d s2 := by rw [ev, h1, R_bind_ok, if_pos h2, h3]
theorem e_me1 {me : Me} (h1 : ev C a ρ st = .ok x s1) (h2 : recvOk me s1 x = true) (h3 : ev C b ρ s1 = .ok y s2) (h4 : me1D me x y s2 = .ok d s3) : ev C (.me1 me a b) ρ st = .ok d s3 := by
  rw [ev, h1, R_bind_ok, if_pos h2, h3, R_bind_ok, h4]
theorem e_om {nm : PySem.Str} {mi n cn f : Nat} {fs : List (PySem.Str × D)} (h1 : ev C a ρ st = .ok (.loc n) s1) (h2 : s1[n]? = some (.ins cn fs)) (hf : C.meth cn mi = some f) (hn : fs.lookup nm = none) (h3 : evs C es ρ s1 = .ok ds s2) (h4 : C.call f (.loc n :: ds) s2 = .ok d s3) :
    ev C (.om nm mi a es) ρ st = .ok d s3 := by
  rw [ev, h1, R_bind_ok]
  simp only [h2, hf, hn]
  rw [h3, R_bind_ok, h4]
theorem e_nil : evs C .nil ρ st = .ok [] st := by rw [evs]
theorem e_cons (h1 : ev C a ρ st = .ok x s1) (h2 : evs C r ρ s1 = .ok xs s2) : evs C (.cons a r) ρ st = .ok (x :: xs) s2 := by rw [evs, h1, R_bind_ok, h2]; rfl
theorem e_it {w : Wk} (h1 : ev C a ρ st = .ok x s1) (h2 : wkD x s1 = .ok w s2) : evI C (.it a) ρ st = .ok w s2 := by rw [evI, h1, R_bind_ok, h2]
theorem e_rng1 {n : Int} (h1 : ev C a ρ st = .ok (.int n) s1) (h : iLim n) : evI C (.rng1 a) ρ st = .ok (rngW 0 n.toNat) s1 := by rw [evI, h1, R_bind_ok, iOf_int, R_bind_ok, if_pos h]
theorem e_comp {e : IE} {t : IT} {own : List Nat} {it : II} {co : IO} {w : Wk} {ys : List D} (h1 : evI C it ρ st = .ok w s1)
    (h2 : compL w (turnC C t own co e ρ) w.xs s1 = .ok ys s2) (h3 : ys.length ≤ LIM) : ev C (.comp e t own it co) ρ st = .ok (.loc s2.length) (s2 ++ [.lst ys]) := by
  have q : ev C (.comp e t own it co) ρ st = (evI C it ρ st).bind fun w st => ((compL w (turnC C t own co e ρ) w.xs st).noex).bind fun ys st => if ys.length ≤ LIM then .ok (.loc st.length) (st ++ [.lst ys]) else .stuck := by
    rw [ev]; rfl
  rw [q, h1, R_bind_ok, h2, R_noex_ok, R_bind_ok, if_pos h3]
theorem t_one {e : IE} {t : IT} {own : List Nat} {ρ1 : Env} (h1 : asgT (wipeE ρ own) t x = some ρ1) (h2 : ev C e ρ1 st = .ok y s1) : turnC C t own .none e ρ x st = .ok (some y) s1 := by
  unfold turnC
  simp only [h1]
  rw [evC, R_bind_ok, if_pos rfl, h2]; rfl
/-- a comprehension over a fixed thing, the store staying -/
theorem compL_map {α : Type} {f : D → Sto → R (Option D)} {u v : α → D} {w : Wk} (hw : w.l = none) : ∀ (l : List α), (∀ a ∈ l, f (u a) st = .ok (some (v a)) st) → compL w f (l.map u) st = .ok (l.map v) st
  | [], _ => by rw [List.map_nil]; unfold compL; rw [if_pos (by unfold Wk.stays; rw [hw])]; rfl
  | a :: l, h => by
    rw [List.map_cons]
    unfold compL
    rw [if_pos (by unfold Wk.stays; rw [hw]), h a List.mem_cons_self, R_bind_ok, compL_map hw l fun y hy => h y (List.mem_cons_of_mem _ hy)]
    rfl
variable {F : Nat} {s : IS} {rs ss : ISs} {ρ1 : Env} {res : SR}
theorem b_nil : evSs C F .nil ρ st = .ok .nx ρ st := by rw [evSs]
theorem b_cons (h1 : evS C F s ρ st = .ok .nx ρ1 s1) (h2 : evSs C F ss ρ1 s1 = res) : evSs C F (.cons s ss) ρ st = res := by rw [evSs, h1, SR_then_nx, h2]
theorem b_rt {d : D} (h1 : evS C F s ρ st = .ok (.rt d) ρ1 s1) : evSs C F (.cons s ss) ρ st = .ok (.rt d) ρ1 s1 := by rw [evSs, h1]; rfl
theorem s_asg {t : IT} (h1 : ev C a ρ st = .ok x s1) (h2 : asgT ρ t x = some ρ1) : evS C F (.asg t a) ρ st = .ok .nx ρ1 s1 := by rw [evS, h1, R_sbind_ok]; simp only [h2]
theorem s_expr (h1 : ev C a ρ st = .ok x s1) : evS C F (.expr a) ρ st = .ok .nx ρ s1 := by rw [evS, h1]; rfl
theorem s_ret (h1 : ev C a ρ st = .ok x s1) : evS C F (.ret a) ρ st = .ok (.rt x) ρ s1 := by rw [evS, h1]; rfl
theorem s_setf {f : PySem.Str} {n cn : Nat} {fs : List (PySem.Str × D)} (h1 : ev C b ρ st = .ok y s1) (h2 : ev C a ρ s1 = .ok (.loc n) s2) (h3 : s2[n]? = some (.ins cn fs)) (h4 : fs.length < 1000) : evS C F (.setf a f b) ρ st = .ok .nx ρ (s2.set n (.ins cn (putF' f y fs))) := by
  rw [evS, h1, R_sbind_ok, h2, R_sbind_ok]
  simp only [h3]
  rw [if_pos h4]
theorem s_seti {n j : Nat} {z : Int} (h1 : ev C b ρ st = .ok y s1) (h2 : ev C a ρ s1 = .ok (.loc n) s2) (h3 : ev C i ρ s2 = .ok (.int z) s3) (h4 : s3[n]? = some (.lst xs)) (h5 : L2.ixN xs.length z = some j) : evS C F (.seti a i b) ρ st = .ok .nx ρ (s3.set n (.lst (xs.set j y))) := by
  rw [evS, h1, R_sbind_ok, h2, R_sbind_ok, h3, R_sbind_ok]
  simp only [h4, h5]
theorem s_iteT (h1 : ev C c ρ st = .ok (.bl true) s1) (h2 : evSs C F ss ρ s1 = res) : evS C F (.ite c ss rs) ρ st = res := by rw [evS, evT, h1, R_bind_ok, bOf_bl, R_sbind_ok, if_pos rfl, h2]
theorem s_iteF (h1 : ev C c ρ st = .ok (.bl false) s1) (h2 : evSs C F rs ρ s1 = res) : evS C F (.ite c ss rs) ρ st = res := by rw [evS, evT, h1, R_bind_ok, bOf_bl, R_sbind_ok, if_neg Bool.false_ne_true, h2]
theorem s_ifT (h1 : ev C c ρ st = .ok (.bl k) s1) (hk : k = true) (h2 : evSs C F ss ρ s1 = res) : evS C F (.ite c ss rs) ρ st = res := by subst hk; exact s_iteT h1 h2
theorem s_ifF (h1 : ev C c ρ st = .ok (.bl k) s1) (hk : k = false) (h2 : evSs C F rs ρ s1 = res) : evS C F (.ite c ss rs) ρ st = res := by subst hk; exact s_iteF h1 h2
theorem s_for {t : IT} {it : II} {w : Wk} (h1 : evI C it ρ st = .ok w s1) (h2 : loopF w t (evSs C F ss) w.xs ρ s1 = res) : evS C F (.for_ t it ss) ρ st = res := by rw [evS, h1, R_sbind_ok, h2]
/-- what a def hands back -/
theorem c_rt {pr : Prog} {k f : Nat} {fi : FnIR} (h : pr.fns[f]? = some fi) (hn : ds.length = fi.np) (hl : fi.lm = false) {ρ1 : Env} (e : evSs (pr.cl F k) F fi.body (ds.map some ++ List.replicate (fi.nl - fi.np) none) st = .ok (.rt d) ρ1 s1) : pr.call F (k + 1) f ds st = finish st (.ok d s1) := by
  rw [call_eq pr F k h hn hl, e, runB_rt]
theorem c_nx {pr : Prog} {k f : Nat} {fi : FnIR} (h : pr.fns[f]? = some fi) (hn : ds.length = fi.np) (hl : fi.lm = false) {ρ1 : Env} (e : evSs (pr.cl F k) F fi.body (ds.map some ++ List.replicate (fi.nl - fi.np) none) st = .ok .nx ρ1 s1) : pr.call F (k + 1) f ds st = finish st (.ok .non s1) := by
  rw [call_eq pr F k h hn hl, e, runB_nx]
/-! ### the operations -/
variable {n m : Nat} {z w : Int} {t u : Tx}
theorem d_mul (h : (-(2 ^ 64) < z ∧ z < 2 ^ 64) ∨ (-(2 ^ 64) < w ∧ w < 2 ^ 64)) : binD .mul (.int z) (.int w) st = .ok (.int (z * w)) st := by unfold binD; simp only; rw [if_pos h]
theorem d_fdiv (h : 0 < w ∧ w < 1073741824) : binD .fdiv (.int z) (.int w) st = .ok (.int (z / w)) st := by unfold binD; simp only; rw [if_pos h]
theorem d_mod (h : 0 < w) : binD .mod (.int z) (.int w) st = .ok (.int (z % w)) st := by unfold binD; simp only; rw [if_pos h]
theorem d_addS (h : t.length + u.length ≤ LIM) : binD .add (.str t) (.str u) st = .ok (.str (t ++ u)) st := by unfold binD; simp only; rw [if_pos h]
theorem d_addT {ts us : List D} (h : ts.length + us.length ≤ LIM) : binD .add (.tup ts) (.tup us) st = .ok (.tup (ts ++ us)) st := by unfold binD; simp only; rw [if_pos h]
theorem d_eq {b : Bool} (h : eqD st x y = some b) : cmpD .eq x y st = .ok (.bl b) st := by unfold cmpD; simp only; rw [h]; rfl
theorem d_ne {b : Bool} (h : eqD st x y = some b) : cmpD .ne x y st = .ok (.bl (!b)) st := by unfold cmpD; simp only; rw [h]; rfl
theorem d_eqL (h1 : st[n]? = some (.lst xs)) (h2 : st[m]? = some (.lst [])) : eqD st (.loc n) (.loc m) = some xs.isEmpty := by unfold eqD; simp only [h1, h2]
theorem d_ixL (h1 : st[n]? = some (.lst xs)) (h2 : L2.atI xs z = some d) : ixD (.loc n) (.int z) st = .ok d st := by
  unfold ixD; simp only [h1]; unfold ixS seqD; simp only [h1]; rw [ofO_some, R_bind_ok, h2]; rfl
theorem d_ixT (h2 : L2.atI xs z = some d) : ixD (.tup xs) (.int z) st = .ok d st := by
  unfold ixD; simp only; unfold ixS seqD; simp only; rw [ofO_some, R_bind_ok, h2]; rfl
theorem d_ixS {cd : Nat} (h : t.length ≤ LIM) (h2 : L2.atI t z = some cd) : ixD (.str t) (.int z) st = .ok (.str [cd]) st := by
  unfold ixD; simp only; unfold ixS; simp only; rw [if_pos h, h2]; rfl
theorem d_lenL (h1 : st[n]? = some (.lst xs)) : biD .len (.loc n) st = .ok (.int xs.length) st := by unfold biD seqD; simp only [h1]; rfl
theorem d_lenS (h : t.length ≤ LIM) : biD .len (.str t) st = .ok (.int t.length) st := by unfold biD; simp only; rw [if_pos h]
theorem d_tupL (h1 : st[n]? = some (.lst xs)) : biD .tuple (.loc n) st = .ok (.tup xs) st := by unfold biD seqD; simp only [h1]; rfl
theorem d_listL (h1 : st[n]? = some (.lst xs)) : biD .list (.loc n) st = .ok (.loc st.length) (st ++ [.lst xs]) := by unfold biD seqD; simp only [h1]; rfl
theorem d_revL (h1 : st[n]? = some (.lst xs)) : revD (.loc n) st = .ok (.loc st.length) (st ++ [.lst xs.reverse]) := by unfold revD lstD; simp only [h1]; rfl
theorem d_isiL {kd : Kd} (h1 : st[n]? = some (.lst xs)) : isiD (.loc n) kd st = .ok (.bl (decide (some Kd.lst = some kd ∨ (some Kd.lst = some .bool ∧ kd = .int)))) st := by unfold isiD kindD; simp only [h1]; rfl
theorem d_slS {lo hi : Option Int} (h : t.length ≤ LIM) : slD (.str t) lo hi st = .ok (.str (cutD t lo hi)) st := by unfold slD; simp only; rw [if_pos h]
theorem d_fld {f : PySem.Str} {cn : Nat} {fs : List (PySem.Str × D)} (h1 : st[n]? = some (.ins cn fs)) (h2 : fs.lookup f = some d) : fldD (.loc n) f st = .ok d st := by unfold fldD; simp only [h1]; rw [h2]; rfl
theorem r_lst {me : Me} (h1 : st[n]? = some (.lst xs)) (hm : me ≠ .join) (hs : me ≠ .split := by decide) : recvOk me st (.loc n) = true := by
  unfold recvOk; cases me <;> first | (exact absurd rfl hm) | (exact absurd rfl hs) | (simp [kindD, h1])
theorem d_pop {y : D} (h1 : st[n]? = some (.lst xs)) (h2 : xs.getLast? = some y) : me0D .pop (.loc n) st = .ok y (st.set n (.lst xs.dropLast)) := by unfold me0D; simp only [h1, h2]
theorem d_app (h1 : st[n]? = some (.lst xs)) (h2 : xs.length < LIM) : me1D .append (.loc n) y st = .ok .non (st.set n (.lst (xs ++ [y]))) := by unfold me1D; simp only [h1]; rw [if_pos h2]
theorem d_popAt {j : Nat} {y : D} (h1 : st[n]? = some (.lst xs)) (h2 : L2.ixN xs.length z = some j) (h3 : xs[j]? = some y) (h4 : xs.length ≤ LIM) : me1D .pop (.loc n) (.int z) st = .ok y (st.set n (.lst (xs.eraseIdx j))) := by
  unfold me1D; simp only [h1, h2, h3]; rw [if_pos h4]
theorem d_ext {ys : List D} (h1 : st[n]? = some (.lst xs)) (h2 : st[m]? = some (.lst ys)) (h3 : xs.length + ys.length ≤ LIM) : me1D .extend (.loc n) (.loc m) st = .ok .non (st.set n (.lst (xs ++ ys))) := by unfold me1D; simp only [h1, h2]; rw [if_pos h3]
theorem strsD_map (ts : List Tx) : strsD (ts.map D.str) = some ts := by
  induction ts with
  | nil => rfl
  | cons t ts ih => rw [List.map_cons, strsD, ih]
theorem d_join {sep : Tx} {ts : List Tx} (h1 : st[n]? = some (.lst (ts.map D.str))) (h2 : (ts.map List.length).sum + ts.length * sep.length ≤ LIM) : me1D .join (.str sep) (.loc n) st = .ok (.str (joinT sep ts)) st := by
  unfold me1D seqD; simp only [h1]; rw [ofO_some, R_bind_ok, strsD_map, ofO_some, R_bind_ok, if_pos h2]
theorem at_last {c : Cell} : (st ++ [c])[st.length]? = some c := by simp
theorem atI_0 {α : Type} {x : α} {xs : List α} : L2.atI (x :: xs) 0 = some x := by
  unfold L2.atI L2.ixN
  rw [if_pos (Int.le_refl 0), if_pos (by simp only [List.length_cons]; omega)]; rfl
theorem ixN_0 {n : Nat} : L2.ixN (n + 1) 0 = some 0 := by
  unfold L2.ixN
  rw [if_pos (Int.le_refl 0), if_pos (by omega)]; rfl
theorem atI_nat {α : Type} {xs : List α} {i : Nat} {x : α} (h : xs[i]? = some x) : L2.atI xs (i : Int) = some x := L2.atI_nat h
end
end Z
namespace Z
section
variable {C : Cl} {F : Nat} {st : Sto} {ρ : Env} {z w : Int}
theorem d_gtF (h : ¬ w < z) : cmpD .gt (.int z) (.int w) st = .ok (.bl false) st := by show R.ok (D.bl (decide _)) st = _; rw [decide_eq_false h]
theorem d_gtT (h : w < z) : cmpD .gt (.int z) (.int w) st = .ok (.bl true) st := by show R.ok (D.bl (decide _)) st = _; rw [decide_eq_true h]
theorem d_geF (h : ¬ w ≤ z) : cmpD .ge (.int z) (.int w) st = .ok (.bl false) st := by show R.ok (D.bl (decide _)) st = _; rw [decide_eq_false h]
theorem d_geT (h : w ≤ z) : cmpD .ge (.int z) (.int w) st = .ok (.bl true) st := by show R.ok (D.bl (decide _)) st = _; rw [decide_eq_true h]
theorem d_ltF (h : ¬ z < w) : cmpD .lt (.int z) (.int w) st = .ok (.bl false) st := by show R.ok (D.bl (decide _)) st = _; rw [decide_eq_false h]
theorem d_ltT (h : z < w) : cmpD .lt (.int z) (.int w) st = .ok (.bl true) st := by show R.ok (D.bl (decide _)) st = _; rw [decide_eq_true h]
theorem d_leF (h : ¬ z ≤ w) : cmpD .le (.int z) (.int w) st = .ok (.bl false) st := by show R.ok (D.bl (decide _)) st = _; rw [decide_eq_false h]
theorem d_leT (h : z ≤ w) : cmpD .le (.int z) (.int w) st = .ok (.bl true) st := by show R.ok (D.bl (decide _)) st = _; rw [decide_eq_true h]
theorem d_gt : cmpD .gt (.int z) (.int w) st = .ok (.bl (decide (w < z))) st := rfl
theorem d_memT {c : Nat} {y : Tx} (h : c ∈ y) : cmpD .mem (.str [c]) (.str y) st = .ok (.bl true) st := by show R.ok (D.bl (decide (c ∈ y))) st = _; rw [decide_eq_true h]
theorem d_nmemF {c : Nat} {y : Tx} (h : c ∈ y) : cmpD .nmem (.str [c]) (.str y) st = .ok (.bl false) st := by show R.ok (D.bl (!decide (c ∈ y))) st = _; rw [decide_eq_true h]; rfl
theorem w_stop {c : IE} {b : ISs} {n : Nat} {s1 : Sto} (h : ev C c ρ st = .ok (.bl false) s1) : loopW (evT C c) (evSs C F b) (n + 1) ρ st = .ok .nx ρ s1 := by
  unfold loopW; rw [evT, h, R_bind_ok, bOf_bl, R_sbind_ok, if_neg Bool.false_ne_true]
theorem w_turn {c : IE} {b : ISs} {n : Nat} {s1 s2 : Sto} {ρ1 : Env} {res : SR} (h : ev C c ρ st = .ok (.bl true) s1) (hb : evSs C F b ρ s1 = .ok .nx ρ1 s2)
    (hr : loopW (evT C c) (evSs C F b) n ρ1 s2 = res) : loopW (evT C c) (evSs C F b) (n + 1) ρ st = res := by
  unfold loopW; rw [evT, h, R_bind_ok, bOf_bl, R_sbind_ok, if_pos rfl, hb, SR_turn_nx, hr]
theorem s_whl {c : IE} {b : ISs} {res : SR} (h : loopW (evT C c) (evSs C F b) F ρ st = res) : evS C F (.whl c b) ρ st = res := by rw [evS, h]
/-- a walk's turns -/
theorem loop_fix {α : Type} {w : Wk} {t : IT} {b : Env → Sto → SR} (l : List α) (u : α → D) (P : Nat → Env → Sto → Prop)
    (hs : ∀ i ρ st, P i ρ st → w.stays st = true)
    (hstep : ∀ i a ρ st, l[i]? = some a → P i ρ st → ∃ ρ1 ρ2 st2, asgT ρ t (u a) = some ρ1 ∧ b ρ1 st = .ok .nx ρ2 st2 ∧ P (i + 1) ρ2 st2) :
    ∀ (n j : Nat) (ρ : Env) (st : Sto), j + n = l.length → P j ρ st → ∃ ρ' st', loopF w t b ((l.drop j).map u) ρ st = .ok .nx ρ' st' ∧ P l.length ρ' st' := by
  intro n
  induction n with
  | zero =>
    intro j ρ st h hp
    rw [List.drop_eq_nil_of_le (by omega)]
    refine ⟨ρ, st, ?_, by rwa [show l.length = j by omega]⟩
    rw [List.map_nil]; unfold loopF; rw [if_pos (hs _ _ _ hp)]
  | succ n ih =>
    intro j ρ st h hp
    have hj : j < l.length := by omega
    rw [List.drop_eq_getElem_cons hj, List.map_cons]
    obtain ⟨ρ1, ρ2, st2, h1, h2, h3⟩ := hstep j l[j] ρ st (List.getElem?_eq_getElem hj) hp
    obtain ⟨ρ', st', h4, h5⟩ := ih (j + 1) ρ2 st2 (by omega) h3
    refine ⟨ρ', st', ?_, h5⟩
    unfold loopF
    rw [if_pos (hs _ _ _ hp)]
    simp only [h1]
    rw [h2, SR_turn_nx, h4]
theorem loop_rng {t : IT} {b : Env → Sto → SR} (n : Nat) (P : Nat → Env → Sto → Prop)
    (hstep : ∀ i ρ st, i < n → P i ρ st → ∃ ρ1 ρ2 st2, asgT ρ t (.int (0 + (i : Int))) = some ρ1 ∧ b ρ1 st = .ok .nx ρ2 st2 ∧ P (i + 1) ρ2 st2) {ρ : Env} {st : Sto} (hp : P 0 ρ st) :
    ∃ ρ' st', loopF (rngW 0 n) t b (rngW 0 n).xs ρ st = .ok .nx ρ' st' ∧ P n ρ' st' := by
  have := loop_fix (w := rngW 0 n) (t := t) (b := b) (List.range n) (fun k : Nat => D.int (0 + (k : Int))) P (fun _ _ _ _ => rfl) (fun i a ρ st ha hp => by
    have h1 := List.getElem?_eq_some_iff.mp ha
    obtain ⟨h2, h3⟩ := h1
    rw [List.getElem_range] at h3
    subst h3
    exact hstep _ ρ st (by simpa using h2) hp) n 0 ρ st (by simp) hp
  rw [List.drop_zero, List.length_range] at this
  exact this
end
/-- the end of a call that changed one thing -/
theorem finish_set {st st1 : Sto} {d : D} {o : Nat} {c : Cell} (h : clD 0 d = true) (k : Keep [o] st st1) (ho : o < st.length) (hc : st1[o]? = some c) (hcl : clC st.length c = true) : finish st (.ok d st1) = .ok d (st.set o c) := by
  obtain ⟨st', e, k', l, at_⟩ := finish_keep (S := [o]) h k (fun i hi => by
    simp only [List.mem_cons, List.not_mem_nil, or_false] at hi
    subst hi; exact ⟨c, hc, hcl⟩)
  rw [e]
  congr 1
  refine List.ext_getElem? fun i => ?_
  by_cases hi : i < st.length
  · by_cases hio : i = o
    · subst hio; rw [at_ i hi, hc, List.getElem?_set_self hi]
    · rw [k'.at_ i hi (by simpa using hio), List.getElem?_set_ne (Ne.symm hio)]
  · rw [List.getElem?_eq_none (by omega), List.getElem?_eq_none (by simp; omega)]
/-! data without things -/
mutual
def purD : D → Bool
  | .loc _ => false
  | .fl _ => false
  | .tup xs => purDs xs
  | _ => true
def purDs : List D → Bool
  | [] => true
  | x :: xs => purD x && purDs xs
end
mutual
def depD : D → Nat
  | .tup xs => 1 + depDs xs
  | _ => 1
def depDs : List D → Nat
  | [] => 0
  | x :: xs => max (depD x) (depDs xs)
end
theorem purDs_mem {ts : List D} : ∀ {t : D}, purDs ts = true → t ∈ ts → purD t = true := by
  induction ts with
  | nil => intro t _ h; cases h
  | cons u us ih =>
    intro t o h
    rw [purDs, Bool.and_eq_true] at o
    rcases List.mem_cons.mp h with rfl | h
    · exact o.1
    · exact ih o.2 h
theorem depDs_mem {ts : List D} : ∀ {t : D}, t ∈ ts → depD t ≤ depDs ts := by
  induction ts with
  | nil => intro t h; cases h
  | cons u us ih =>
    intro t h
    rw [depDs]
    rcases List.mem_cons.mp h with rfl | h
    · exact Nat.le_max_left _ _
    · exact Nat.le_trans (ih h) (Nat.le_max_right _ _)
theorem depD_pos (d : D) : 1 ≤ depD d := by cases d <;> simp [depD]
mutual
def sizD : D → Nat
  | .tup xs => 1 + sizDs xs
  | _ => 1
def sizDs : List D → Nat
  | [] => 0
  | x :: xs => 1 + sizD x + sizDs xs
end
end Z
/-! evaluation by simp -/
namespace Z
section
variable {C : Cl} {ρ : Env} {st : Sto} {F : Nat} {a b c i e : IE} {es : IEs} {r : IEs} {lo hi : IO} {s : IS} {ss rs : ISs}
@[simp] theorem x_var (n : Nat) : ev C (.var n) ρ st = (match ρ[n]? with | some (some d) => .ok d st | _ => .stuck) := by rw [ev] <;> rfl
@[simp] theorem x_cst (d : D) : ev C (.cst d) ρ st = .ok d st := by rw [ev]
@[simp] theorem x_gl (d : D) : ev C (.gl d) ρ st = .ok d st := by rw [ev]
@[simp] theorem x_tup  : ev C (.tup es) ρ st = (evs C es ρ st).bind fun ds st => if ds.length ≤ LIM then .ok (.tup ds) st else .stuck := by rw [ev]
@[simp] theorem x_lst  : ev C (.lst es) ρ st = (evs C es ρ st).bind fun ds st => if ds.length ≤ LIM then .ok (.loc st.length) (st ++ [.lst ds]) else .stuck := by rw [ev]
@[simp] theorem x_bin (o : BOp) : ev C (.bin o a b) ρ st = (ev C a ρ st).bind fun x st => (ev C b ρ st).bind fun y st => binD o x y st := by rw [ev]
@[simp] theorem x_cmp (o : COp) : ev C (.cmp o a b) ρ st = (ev C a ρ st).bind fun x st => (ev C b ρ st).bind fun y st => cmpD o x y st := by rw [ev]
@[simp] theorem x_and  : ev C (.and a b) ρ st = (ev C a ρ st).bind fun x st => (bOf st x).bind fun k st => if k = true then (ev C b ρ st).bind fun y st => (bOf st y).bind fun j st => .ok (.bl j) st else .ok (.bl false) st := by rw [ev]
@[simp] theorem x_or  : ev C (.or a b) ρ st = (ev C a ρ st).bind fun x st => (bOf st x).bind fun k st => if k = true then .ok (.bl true) st else (ev C b ρ st).bind fun y st => (bOf st y).bind fun j st => .ok (.bl j) st := by rw [ev]
@[simp] theorem x_not  : ev C (.not a) ρ st = (ev C a ρ st).bind fun x st => (bOf st x).bind fun k st => .ok (.bl (!k)) st := by rw [ev]
@[simp] theorem x_ite  : ev C (.ite c a b) ρ st = (ev C c ρ st).bind fun x st => (bOf st x).bind fun k st => if k = true then ev C a ρ st else ev C b ρ st := by rw [ev]
@[simp] theorem x_ix  : ev C (.ix a i) ρ st = (ev C a ρ st).bind fun x st => (ev C i ρ st).bind fun y st => ixD x y st := by rw [ev]
@[simp] theorem x_sl  : ev C (.sl a lo hi) ρ st = (ev C a ρ st).bind fun x st => (evO C lo ρ st).bind fun l st => (evO C hi ρ st).bind fun h st => slD x l h st := by rw [ev]
@[simp] theorem x_rev  : ev C (.rev a) ρ st = (ev C a ρ st).bind fun x st => revD x st := by rw [ev]
@[simp] theorem x_fld (f : PySem.Str) : ev C (.fld a f) ρ st = (ev C a ρ st).bind fun x st => fldD x f st := by rw [ev]
@[simp] theorem x_isi (k : Kd) : ev C (.isi a k) ρ st = (ev C a ρ st).bind fun x st => isiD x k st := by rw [ev]
@[simp] theorem x_bi (o : Bi) : ev C (.bi o a) ρ st = (ev C a ρ st).bind fun x st => biD o x st := by rw [ev]
@[simp] theorem x_call (f : Nat) : ev C (.call f es) ρ st = (evs C es ρ st).bind fun ds st => C.call f ds st := by rw [ev]
@[simp] theorem x_me0 (m : Me) : ev C (.me0 m a) ρ st = (ev C a ρ st).bind fun x st => if recvOk m st x = true then me0D m x st else .stuck := by rw [ev]
@[simp] theorem x_me1 (m : Me) : ev C (.me1 m a b) ρ st = (ev C a ρ st).bind fun x st => if recvOk m st x = true then (ev C b ρ st).bind fun y st => me1D m x y st else .stuck := by rw [ev]
@[simp] theorem x_dnew (t : Bool) : ev C (.dnew t) ρ st = .ok (.loc st.length) (st ++ [if t = true then .dct [] else .dck []]) := by rw [ev]
@[simp] theorem x_cch (o o' : COp) : ev C (.cch o o' a b c) ρ st = (ev C a ρ st).bind fun x st => (ev C b ρ st).bind fun y st => (cmpD o x y st).bind fun z st => (bOf st z).bind fun k st => if k = true then (ev C c ρ st).bind fun w st => cmpD o' y w st else .ok (.bl false) st := by rw [ev]
@[simp] theorem xs_nil : evs C .nil ρ st = .ok [] st := by rw [evs]
@[simp] theorem xs_cons : evs C (.cons a r) ρ st = (ev C a ρ st).bind fun x st => (evs C r ρ st).bind fun xs st => .ok (x :: xs) st := by rw [evs]
@[simp] theorem xo_none : evO C .none ρ st = .ok none st := by rw [evO]
@[simp] theorem xo_some : evO C (.some a) ρ st = (ev C a ρ st).bind fun x st => (iOf st x).bind fun i st => .ok (some i) st := by rw [evO]
@[simp] theorem y_asg (t : IT) : evS C F (.asg t e) ρ st = (ev C e ρ st).sbind ρ fun x st => match asgT ρ t x with | some ρ' => .ok .nx ρ' st | none => .stuck := by rw [evS] <;> rfl
@[simp] theorem y_expr : evS C F (.expr e) ρ st = (ev C e ρ st).sbind ρ fun _ st => .ok .nx ρ st := by rw [evS]
@[simp] theorem y_ret : evS C F (.ret e) ρ st = (ev C e ρ st).sbind ρ fun x st => .ok (.rt x) ρ st := by rw [evS]
@[simp] theorem y_ite : evS C F (.ite c ss rs) ρ st = (ev C c ρ st).sbind ρ fun x st => (bOf st x).sbind ρ fun k st => if k = true then evSs C F ss ρ st else evSs C F rs ρ st := by rw [evS, evT]; cases ev C c ρ st <;> rfl
@[simp] theorem ys_nil : evSs C F .nil ρ st = .ok .nx ρ st := by rw [evSs]
@[simp] theorem ys_cons : evSs C F (.cons s ss) ρ st = (evS C F s ρ st).then (evSs C F ss) := by rw [evSs]
end
section
variable {st : Sto} {x y : D} {z w : Int} {t u : Tx} {xs ys : List D}
@[simp] theorem o_addI : binD .add (.int z) (.int w) st = .ok (.int (z + w)) st := (rfl)
@[simp] theorem o_subI : binD .sub (.int z) (.int w) st = .ok (.int (z - w)) st := (rfl)
@[simp] theorem o_addS : binD .add (.str t) (.str u) st = if t.length + u.length ≤ LIM then .ok (.str (t ++ u)) st else .stuck := (rfl)
@[simp] theorem o_addT : binD .add (.tup xs) (.tup ys) st = if xs.length + ys.length ≤ LIM then .ok (.tup (xs ++ ys)) st else .stuck := (rfl)
@[simp] theorem o_mulI : binD .mul (.int z) (.int w) st = if (-(2 ^ 64) < z ∧ z < 2 ^ 64) ∨ (-(2 ^ 64) < w ∧ w < 2 ^ 64) then .ok (.int (z * w)) st else .stuck := (rfl)
@[simp] theorem o_lt : cmpD .lt (.int z) (.int w) st = .ok (.bl (decide (z < w))) st := (rfl)
@[simp] theorem o_le : cmpD .le (.int z) (.int w) st = .ok (.bl (decide (z ≤ w))) st := (rfl)
@[simp] theorem o_gt : cmpD .gt (.int z) (.int w) st = .ok (.bl (decide (w < z))) st := (rfl)
@[simp] theorem o_ge : cmpD .ge (.int z) (.int w) st = .ok (.bl (decide (w ≤ z))) st := (rfl)
@[simp] theorem o_eq : cmpD .eq x y st = (ofO st (eqD st x y)).bind fun r st => .ok (.bl r) st := (rfl)
@[simp] theorem o_ne : cmpD .ne x y st = (ofO st (eqD st x y)).bind fun r st => .ok (.bl (!r)) st := (rfl)
@[simp] theorem o_isN : cmpD .isN x .non st = .ok (.bl (decide (x = .non))) st := (rfl)
@[simp] theorem o_notN : cmpD .notN x .non st = .ok (.bl (!decide (x = .non))) st := (rfl)
@[simp] theorem o_mem : cmpD .mem x y st = (ofO st (memD st x y)).bind fun r st => .ok (.bl r) st := (rfl)
@[simp] theorem o_nmem : cmpD .nmem x y st = (ofO st (memD st x y)).bind fun r st => .ok (.bl (!r)) st := (rfl)
@[simp] theorem q_int : eqD st (.int z) (.int w) = some (decide (z = w)) := (rfl)
@[simp] theorem q_str : eqD st (.str t) (.str u) = some (decide (t = u)) := (rfl)
@[simp] theorem q_tupE : eqD st (.tup xs) (.tup []) = some xs.isEmpty := (rfl)
@[simp] theorem m_str {c : Nat} : memD st (.str [c]) (.str u) = some (decide (c ∈ u)) := (rfl)
@[simp] theorem i_tup : ixD (.tup xs) (.int z) st = ofO st (L2.atI xs z) := (rfl)
@[simp] theorem k_int {k : Kd} : isiD (.int z) k st = .ok (.bl (decide (k = .int))) st := by cases k <;> rfl
@[simp] theorem k_str {k : Kd} : isiD (.str t) k st = .ok (.bl (decide (k = .str))) st := by cases k <;> rfl
@[simp] theorem k_tup {k : Kd} : isiD (.tup xs) k st = .ok (.bl (decide (k = .tup))) st := by cases k <;> rfl
@[simp] theorem k_non {k : Kd} : isiD .non k st = .ok (.bl false) st := by cases k <;> rfl
@[simp] theorem l_tup : biD .len (.tup xs) st = .ok (.int xs.length) st := (rfl)
@[simp] theorem l_str : biD .len (.str t) st = if t.length ≤ LIM then .ok (.int t.length) st else .stuck := (rfl)
@[simp] theorem at_0 {α : Type} {x : α} {xs : List α} : L2.atI (x :: xs) 0 = some x := atI_0
@[simp] theorem at_1 {α : Type} {x y : α} {xs : List α} : L2.atI (x :: y :: xs) 1 = some y := by
  have := atI_nat (xs := x :: y :: xs) (i := 1) (x := y) rfl
  exact this
@[simp] theorem at_2 {α : Type} {x y z : α} {xs : List α} : L2.atI (x :: y :: z :: xs) 2 = some z := by
  have := atI_nat (xs := x :: y :: z :: xs) (i := 2) (x := z) rfl
  exact this
@[simp] theorem at_3 {α : Type} {x y z u : α} {xs : List α} : L2.atI (x :: y :: z :: u :: xs) 3 = some u := by
  have := atI_nat (xs := x :: y :: z :: u :: xs) (i := 3) (x := u) rfl
  exact this
@[simp] theorem ag_name {ρ : Env} {i : Nat} : asgT ρ (.name i) x = some (ρ.set i (some x)) := (rfl)
end
/-! plain data: no bools, nothing that may change -/
mutual
def plD : D → Bool
  | .non => true | .int _ => true | .str x => decide (x.length ≤ LIM) && x.all fun c => decide (c < 1114112)
  | .tup xs => plDs xs
  | _ => false
def plDs : List D → Bool
  | [] => true
  | x :: xs => plD x && plDs xs
end
mutual
def pyD : D → PySem.PyData
  | .int i => .int i
  | .str x => .str (sOf x)
  | .tup xs => .tuple (pyDs xs)
  | _ => .none
def pyDs : List D → List PySem.PyData
  | [] => []
  | x :: xs => pyD x :: pyDs xs
end
mutual
theorem toPW_pl {f : Nat → Option PySem.PyData} : ∀ {d : D}, plD d = true → toPW f d = some (pyD d)
  | .non, _ => rfl
  | .int _, _ => rfl
  | .str _, _ => rfl
  | .tup xs, h => by rw [plD] at h; rw [toPW, toPWs_pl h, pyD]
  | .bl _, h => by cases h
  | .loc _, h => by cases h
  | .fl _, h => by cases h
theorem toPWs_pl {f : Nat → Option PySem.PyData} : ∀ {ds : List D}, plDs ds = true → toPWs f ds = some (pyDs ds)
  | [], _ => by rw [toPWs, pyDs]
  | d :: ds, h => by
    rw [plDs, Bool.and_eq_true] at h
    rw [toPWs, toPW_pl h.1, toPWs_pl h.2, pyDs]
end
theorem toP_pl {st : Sto} {n : Nat} {d : D} (h : plD d = true) : toP st n d = some (pyD d) := by
  cases n with
  | zero => exact toPW_pl h
  | succ n => exact toPW_pl h
mutual
theorem eqv_pl : ∀ {a b : D}, plD a = true → plD b = true → PySem.PyData.eqv (pyD a) (pyD b) = decide (a = b)
  | .non, b, _, h => by cases b <;> simp [plD] at h <;> simp [pyD, PySem.PyData.eqv]
  | .int i, b, _, h => by
    cases b <;> simp [plD] at h <;> simp [pyD, PySem.PyData.eqv]
    rename_i j
    by_cases e : i = j <;> simp [e]
  | .str x, b, _, h => by
    cases b <;> simp [plD] at h <;> simp [pyD, PySem.PyData.eqv]
    rename_i y
    by_cases e : x = y
    · simp [e]
    · have : ¬ sOf x = sOf y := fun z => e (by
        have : x.toArray = y.toArray := by injection z
        simpa using this)
      simp [e, this]
  | .tup xs, b, g, h => by
    cases b <;> simp [plD] at h
    · simp [pyD, PySem.PyData.eqv]
    · simp [pyD, PySem.PyData.eqv]
    · simp [pyD, PySem.PyData.eqv]
    · rename_i ys
      rw [plD] at g
      rw [pyD, pyD, PySem.PyData.eqv, eqvs_pl g h]
      by_cases e : xs = ys <;> simp [e]
  | .bl _, b, g, _ => by cases g
  | .loc _, b, g, _ => by cases g
  | .fl _, b, g, _ => by cases g
theorem eqvs_pl : ∀ {a b : List D}, plDs a = true → plDs b = true → PySem.PyData.eqvAll (pyDs a) (pyDs b) = decide (a = b)
  | [], [], _, _ => rfl
  | [], _ :: _, _, _ => by simp [pyDs, PySem.PyData.eqvAll]
  | _ :: _, [], _, _ => by simp [pyDs, PySem.PyData.eqvAll]
  | x :: xs, y :: ys, g, h => by
    rw [plDs, Bool.and_eq_true] at g h
    rw [pyDs, pyDs, PySem.PyData.eqvAll, eqv_pl g.1 h.1, eqvs_pl g.2 h.2]
    by_cases e : x = y <;> by_cases e' : xs = ys <;> simp [e, e']
end
mutual
theorem lay_pl : ∀ {a : D}, plD a = true → (pyD a).canLay0 = true
  | .non, _ => rfl
  | .int _, _ => rfl
  | .str x, h => by
    rw [plD, Bool.and_eq_true] at h
    show PySem.PyData.strOk (sOf x) = true
    unfold PySem.PyData.strOk sOf
    rw [← Array.all_toList, List.toList_toArray]
    exact h.2
  | .tup xs, h => by
    rw [plD] at h
    rw [pyD]
    show PySem.PyData.canLayAll0 (pyDs xs) = true
    exact lays_pl h
  | .bl _, g => by cases g
  | .loc _, g => by cases g
  | .fl _, g => by cases g
theorem lays_pl : ∀ {a : List D}, plDs a = true → PySem.PyData.canLayAll0 (pyDs a) = true
  | [], _ => rfl
  | x :: xs, h => by
    rw [plDs, Bool.and_eq_true] at h
    rw [pyDs, PySem.PyData.canLayAll0, lay_pl h.1, lays_pl h.2]; rfl
end
mutual
theorem dep_pl : ∀ (a : D), (pyD a).depth ≤ depD a
  | .non => by simp [pyD, PySem.PyData.depth, depD]
  | .int _ => by simp [pyD, PySem.PyData.depth, depD]
  | .str x => by simp [pyD, PySem.PyData.depth, depD]
  | .bl x => by simp [pyD, PySem.PyData.depth, depD]
  | .loc x => by simp [pyD, PySem.PyData.depth, depD]
  | .fl x => by simp [pyD, PySem.PyData.depth, depD]
  | .tup xs => by
    rw [pyD, PySem.PyData.depth, depD]
    have := deps_pl xs
    omega
theorem deps_pl : ∀ (a : List D), PySem.PyData.depthAll (pyDs a) ≤ depDs a
  | [] => by simp [pyDs, PySem.PyData.depthAll, depDs]
  | x :: xs => by
    rw [pyDs, PySem.PyData.depthAll, depDs]
    have := dep_pl x
    have := deps_pl xs
    omega
end
theorem eqG_pl {st : Sto} {a b : D} (ha : plD a = true) (hb : plD b = true) (hd : depD a ≤ 60) : eqG st a b = some (decide (a = b)) := by
  unfold eqG
  rw [toP_pl ha, toP_pl hb]
  simp only
  rw [if_pos ⟨lay_pl ha, lay_pl hb, by have := dep_pl a; have h2 : min (pyD a).depth (pyD b).depth ≤ (pyD a).depth := Nat.min_le_left _ _; omega⟩, eqv_pl ha hb]
theorem shaped_pl {a : D} (ha : plD a = true) (hd : depD a ≤ 60) : PySem.SeqAt.shaped (pyD a) = true := by
  unfold PySem.SeqAt.shaped
  rw [lay_pl ha, decide_eq_true (by have := dep_pl a; omega)]; rfl
theorem any_pl {a : D} (ha : plD a = true) : ∀ {xs : List D}, plDs xs = true → ((pyDs xs).any fun z => PySem.PyData.eqv z (pyD a)) = decide (a ∈ xs)
  | [], _ => by simp [pyDs]
  | x :: xs, h => by
    rw [plDs, Bool.and_eq_true] at h
    rw [pyDs, List.any_cons, eqv_pl h.1 ha, any_pl ha h.2]
    by_cases e : x = a
    · simp [e]
    · have e' : ¬ a = x := fun z => e z.symm
      by_cases e2 : a ∈ xs <;> simp [e, e', e2]
theorem memS_pl {st : Sto} {a : D} {xs : List D} (ha : plD a = true) (hx : plDs xs = true) (hd : depD a ≤ 60) (hd2 : depDs xs ≤ 59) : memS st a xs = some (decide (a ∈ xs)) := by
  unfold memS
  rw [toP_pl ha, toP_pl (d := .tup xs) (by rw [plD]; exact hx), pyD]
  simp only
  have h2 := shaped_pl (a := .tup xs) (by rw [plD]; exact hx) (by rw [depD]; omega)
  rw [pyD] at h2
  rw [if_pos ⟨shaped_pl ha hd, h2⟩, any_pl ha hx]
end Z
/-! rows for `simp`: what the operations do at a place of the store -/
namespace Z
@[simp] theorem R_bind_exc {α β : Type} (e : Ex) (st : Sto) (f : α → Sto → R β) : (R.exc e st : R α).bind f = .exc e st := (rfl)
@[simp] theorem R_sbind_exc {α : Type} (ρ : Env) (e : Ex) (st : Sto) (f : α → Sto → SR) : (R.exc e st : R α).sbind ρ f = .exc e ρ st := (rfl)
@[simp] theorem SR_then_exc (e : Ex) (ρ : Env) (st : Sto) (f : Env → Sto → SR) : (SR.exc e ρ st).then f = .exc e ρ st := (rfl)
@[simp] theorem SR_then_bk (ρ : Env) (st : Sto) (f : Env → Sto → SR) : (SR.ok .bk ρ st).then f = .ok .bk ρ st := (rfl)
@[simp] theorem SR_then_ct (ρ : Env) (st : Sto) (f : Env → Sto → SR) : (SR.ok .ct ρ st).then f = .ok .ct ρ st := (rfl)
@[simp] theorem runB_exc (e : Ex) (ρ : Env) (st : Sto) : runB (.exc e ρ st) = .exc e st := (rfl)
section
variable {C : Cl} {ρ : Env} {st : Sto} {a b c i e : IE} {es : IEs} {ss : ISs} {F n m : Nat} {x y d : D} {z w : Int} {t u : Tx} {xs ys : List D} {lo hi : Option Int}
@[simp] theorem y_seti : evS C F (.seti a i e) ρ st = (ev C e ρ st).sbind ρ fun y st => (ev C a ρ st).sbind ρ fun x st => (ev C i ρ st).sbind ρ fun k st => match x, k with
    | .loc n, .int i => (match st[n]? with
      | some (.lst xs) => (match L2.ixN xs.length i with | some j => .ok .nx ρ (st.set n (.lst (xs.set j y))) | none => .stuck)
      | some (.dck kvs) => if kvs.length < LIM then .ok .nx ρ (st.set n (.dck (dPut kvs k y))) else .stuck
      | _ => .stuck)
    | .loc n, .str _ => (match st[n]? with
      | some (.dck kvs) => if kvs.length < LIM then .ok .nx ρ (st.set n (.dck (dPut kvs k y))) else .stuck
      | _ => .stuck)
    | .loc n, .tup _ => (match st[n]? with
      | some (.dct kvs) => if keyT k = true ∧ kvs.length < LIM then .ok .nx ρ (st.set n (.dct (dPut kvs k y))) else .stuck
      | _ => .stuck)
    | _, _ => .stuck := by rw [evS] <;> rfl
@[simp] theorem y_setf {f : PySem.Str} : evS C F (.setf a f e) ρ st = (ev C e ρ st).sbind ρ fun y st => (ev C a ρ st).sbind ρ fun x st => match x with
    | .loc n => (match st[n]? with | some (.ins c fs) => if fs.length < 1000 then .ok .nx ρ (st.set n (.ins c (putF' f y fs))) else .stuck | _ => .stuck)
    | _ => .stuck := by rw [evS] <;> rfl
@[simp] theorem y_retN : evS C F .retN ρ st = .ok (.rt .non) ρ st := by rw [evS]
@[simp] theorem y_pass : evS C F .pass ρ st = .ok .nx ρ st := by rw [evS]
@[simp] theorem y_brk : evS C F .brk ρ st = .ok .bk ρ st := by rw [evS]
@[simp] theorem y_cont : evS C F .cont ρ st = .ok .ct ρ st := by rw [evS]
@[simp] theorem x_told : ev C (.told a) ρ st = toldR C.tw (ev C a ρ st) := by rw [ev]
@[simp] theorem toldR_ok {tw : Nat → Option (Tx × Option PySem.Str)} : toldR tw (.ok d st) = .ok d st := (rfl)
@[simp] theorem toldR_exc {tw : Nat → Option (Tx × Option PySem.Str)} {x : Ex} : toldR tw (.exc x st) = (match tw x.c, x.f with
    | some (w, none), none => .ok (.tup [.str w, .int 0]) st
    | some (w, some f), some (g, d) => if g = f then .ok (.tup [.str w, d]) st else .stuck
    | _, _ => .stuck) := (rfl)
@[simp] theorem x_srt : ev C (.srt a) ρ st = (ev C a ρ st).bind fun x st => srtD x st := by rw [ev]
@[simp] theorem x_srtk : ev C (.srtk a) ρ st = (ev C a ρ st).bind fun x st => srtkD x st := by rw [ev]
@[simp] theorem x_dpairs : ev C (.dpairs a) ρ st = (ev C a ρ st).bind fun x st => dpairsD x st := by rw [ev]
@[simp] theorem y_par {is : List Nat} : evS C F (.par is es) ρ st = (evs C es ρ st).sbind ρ fun ds st => if ds.length = is.length then .ok .nx ((is.zip ds).foldl (fun ρ p => ρ.set p.1 (some p.2)) ρ) st else .stuck := by rw [evS]
@[simp] theorem x_mn2 {mx : Bool} : ev C (.mn2 mx a b) ρ st = (ev C a ρ st).bind fun x st => (ev C b ρ st).bind fun y st => (iOf st x).bind fun i st => (iOf st y).bind fun j st => .ok (.int (if mx = true then (if i < j then j else i) else (if j < i then j else i))) st := by rw [ev]
@[simp] theorem y_rais0 {cn : Nat} : evS C F (.rais0 cn) ρ st = .exc ⟨cn, none⟩ ρ st := by rw [evS]
@[simp] theorem y_rais1 {cn : Nat} {f : PySem.Str} : evS C F (.rais1 cn f e) ρ st = (ev C e ρ st).sbind ρ fun d st => .exc ⟨cn, some (f, d)⟩ ρ st := by rw [evS]
@[simp] theorem y_tryN : evS C F (.tryN ss) ρ st = (evSs C F ss ρ st).noex := by rw [evS]
@[simp] theorem SR_noex_ok {f : Fl} : (SR.ok f ρ st).noex = .ok f ρ st := (rfl)
@[simp] theorem x_mk {c : Nat} : ev C (.mk c es) ρ st = (evs C es ρ st).bind fun ds st => match C.ini c with
    | some f => (C.call f (.loc st.length :: ds) (st ++ [.ins c []])).bind fun r st' => if r = .non then .ok (.loc st.length) st' else .stuck
    | none => .stuck := by rw [ev] <;> rfl
@[simp] theorem x_om {nm : PySem.Str} : ev C (.om nm m a es) ρ st = (ev C a ρ st).bind fun x st => match x with
    | .loc n => (match st[n]? with
      | some (.ins c fs) => (match C.meth c m, fs.lookup nm with
        | some f, none => (evs C es ρ st).bind fun ds st => C.call f (.loc n :: ds) st
        | _, _ => .stuck)
      | _ => .stuck)
    | _ => .stuck := by rw [ev] <;> rfl
@[simp] theorem x_lrng1 : ev C (.lrng1 a) ρ st = (ev C a ρ st).bind fun x st => (iOf st x).bind fun i st => if 0 ≤ i ∧ i ≤ 100000 then .ok (.loc st.length) (st ++ [.lst (rngW 0 i.toNat).xs]) else .stuck := by rw [ev]
@[simp] theorem x_lrng2 : ev C (.lrng2 a b) ρ st = (ev C a ρ st).bind fun x st => (ev C b ρ st).bind fun y st => (iOf st x).bind fun i st => (iOf st y).bind fun j st =>
      if 0 ≤ i ∧ i ≤ 100000 ∧ 0 ≤ j ∧ j ≤ 100000 then .ok (.loc st.length) (st ++ [.lst (rngW i (j - i).toNat).xs]) else .stuck := by rw [ev]
@[simp] theorem xi_it : evI C (.it a) ρ st = (ev C a ρ st).bind fun x st => wkD x st := by rw [evI]
@[simp] theorem xi_rng1 : evI C (.rng1 a) ρ st = (ev C a ρ st).bind fun x st => (iOf st x).bind fun i st => if iLim i then .ok (rngW 0 i.toNat) st else .stuck := by rw [evI]
@[simp] theorem xi_rng2 : evI C (.rng2 a b) ρ st = (ev C a ρ st).bind fun x st => (ev C b ρ st).bind fun y st => (iOf st x).bind fun i st => (iOf st y).bind fun j st => if iLim i ∧ iLim j then .ok (rngW i (j - i).toNat) st else .stuck := by rw [evI]
@[simp] theorem xi_enum : evI C (.enum a) ρ st = (ev C a ρ st).bind fun x st => match x with
    | .loc _ => (wkD x st).bind fun w st => .ok w.enum st
    | .fl _ => (wkD x st).bind fun w st => .ok w.enum st
    | _ => .stuck := by rw [evI] <;> rfl
@[simp] theorem y_for {tg : IT} {it : II} : evS C F (.for_ tg it ss) ρ st = (evI C it ρ st).sbind ρ fun w st => loopF w tg (evSs C F ss) w.xs ρ st := by rw [evS]
@[simp] theorem y_whl : evS C F (.whl c ss) ρ st = loopW (evT C c) (evSs C F ss) F ρ st := by rw [evS]
theorem x_comp {e : IE} {tg : IT} {own : List Nat} {it : II} {co : IO} : ev C (.comp e tg own it co) ρ st = (evI C it ρ st).bind fun w st => ((compL w (turnC C tg own co e ρ) w.xs st).noex).bind fun ys st => if ys.length ≤ LIM then .ok (.loc st.length) (st ++ [.lst ys]) else .stuck := by rw [ev] <;> rfl
@[simp] theorem w_tup : wkD (.tup xs) st = .ok ⟨xs, none⟩ st := (rfl)
@[simp] theorem w_fl : wkD (.fl xs) st = .ok ⟨xs, none⟩ st := (rfl)
@[simp] theorem w_loc : wkD (.loc n) st = (match st[n]? with | some (.lst xs) => .ok ⟨xs, some (n, .lst xs)⟩ st | _ => .stuck) := (rfl)
/-- operators -/
@[simp] theorem o_fdivI : binD .fdiv (.int z) (.int w) st = if 0 < w ∧ w < 1073741824 then .ok (.int (z / w)) st else .stuck := (rfl)
@[simp] theorem o_modI : binD .mod (.int z) (.int w) st = if 0 < w then .ok (.int (z % w)) st else .stuck := (rfl)
@[simp] theorem o_mulT : binD .mul (.tup xs) (.int z) st = if xs ≠ [] ∧ 2 ≤ z ∧ z ≤ 1000 ∧ xs.length ≤ 1000 then .ok (.tup (List.replicate z.toNat xs).flatten) st else .stuck := (rfl)
@[simp] theorem o_addL : binD .add (.loc n) (.loc m) st = (match st[n]?, st[m]? with
    | some (.lst x), some (.lst y) => if x.length + y.length ≤ LIM then .ok (.loc st.length) (st ++ [.lst (x ++ y)]) else .stuck
    | _, _ => .stuck) := (rfl)
@[simp] theorem q_bl {p q : Bool} : eqD st (.bl p) (.bl q) = some (decide (p = q)) := (rfl)
@[simp] theorem q_loc : eqD st (.loc n) (.loc m) = (match st[n]?, st[m]? with
    | some (.lst xs), some (.lst []) => some xs.isEmpty
    | _, _ => eqG st (.loc n) (.loc m)) := (rfl)
@[simp] theorem i_loc : ixD (.loc n) (.int z) st = (match st[n]? with | some (.lst xs) => ofO st (L2.atI xs z) | some (.dck kvs) => ofO st (dGet kvs (.int z)) | _ => .stuck) := by
  show (match st[n]? with | some (.dct kvs) => if keyT (.int z) = true then ofO st (dGet kvs (.int z)) else .stuck | some (.dck kvs) => if keyK (.int z) = true then ofO st (dGet kvs (.int z)) else .stuck | _ => ixS (.loc n) (.int z) st) = _
  cases h : st[n]? with
  | none => simp [ixS, seqD, h, ofO, R.bind]
  | some c => cases c <;> simp [ixS, seqD, h, ofO, R.bind, keyT, keyK]
@[simp] theorem i_locS : ixD (.loc n) (.str t) st = (match st[n]? with | some (.dck kvs) => ofO st (dGet kvs (.str t)) | _ => .stuck) := by
  show (match st[n]? with | some (.dct kvs) => if keyT (.str t) = true then ofO st (dGet kvs (.str t)) else .stuck | some (.dck kvs) => if keyK (.str t) = true then ofO st (dGet kvs (.str t)) else .stuck | _ => ixS (.loc n) (.str t) st) = _
  cases h : st[n]? with
  | none => first | rfl | (simp only [h]; done) | (simp only [h]; rfl)
  | some c => cases c <;> first | rfl | (simp only [h]; done) | (simp only [h]; rfl)
@[simp] theorem i_locT : ixD (.loc n) (.tup xs) st = (match st[n]? with | some (.dct kvs) => if keyT (.tup xs) = true then ofO st (dGet kvs (.tup xs)) else .stuck | _ => .stuck) := by
  show (match st[n]? with | some (.dct kvs) => if keyT (.tup xs) = true then ofO st (dGet kvs (.tup xs)) else .stuck | some (.dck kvs) => if keyK (.tup xs) = true then ofO st (dGet kvs (.tup xs)) else .stuck | _ => ixS (.loc n) (.tup xs) st) = _
  cases h : st[n]? with
  | none => first | rfl | (simp only [h]; done) | (simp only [h]; rfl)
  | some c => cases c <;> first | rfl | (simp only [h]; done) | (simp only [h]; rfl)
@[simp] theorem i_str : ixD (.str t) (.int z) st = if t.length ≤ LIM then (ofO st (L2.atI t z)).bind fun c st => .ok (.str [c]) st else .stuck := (rfl)
@[simp] theorem s_str : slD (.str t) lo hi st = if t.length ≤ LIM then .ok (.str (cutD t lo hi)) st else .stuck := (rfl)
@[simp] theorem s_tup : slD (.tup xs) lo hi st = .ok (.tup (cutD xs lo hi)) st := (rfl)
@[simp] theorem s_loc : slD (.loc n) lo hi st = (match st[n]? with | some (.lst xs) => .ok (.loc st.length) (st ++ [.lst (cutD xs lo hi)]) | _ => .stuck) := by
  show (ofO st (lstD st (.loc n))).bind _ = _
  unfold lstD
  cases h : st[n]? with
  | none => first | rfl | (simp only [h]; done) | (simp only [h]; rfl)
  | some c => cases c <;> first | rfl | (simp only [h]; done) | (simp only [h]; rfl)
@[simp] theorem v_loc : revD (.loc n) st = (match st[n]? with | some (.lst xs) => .ok (.loc st.length) (st ++ [.lst xs.reverse]) | _ => .stuck) := by
  show (ofO st (lstD st (.loc n))).bind _ = _
  unfold lstD
  cases h : st[n]? with
  | none => first | rfl | (simp only [h]; done) | (simp only [h]; rfl)
  | some c => cases c <;> first | rfl | (simp only [h]; done) | (simp only [h]; rfl)
@[simp] theorem v_tup : revD (.tup xs) st = .ok (.tup xs.reverse) st := (rfl)
@[simp] theorem v_str : revD (.str t) st = if t.length ≤ LIM then .ok (.str t.reverse) st else .stuck := (rfl)
@[simp] theorem m_loc : memD st x (.loc n) = (match st[n]? with
    | some (.lst xs) => memS st x xs
    | some (.dct kvs) => if keyT x = true then some (dGet kvs x).isSome else none
    | some (.dck kvs) => if keyK x = true then some (dGet kvs x).isSome else none
    | _ => none) := (rfl)
@[simp] theorem f_loc {f : PySem.Str} : fldD (.loc n) f st = (match st[n]? with | some (.ins _ fs) => ofO st (fs.lookup f) | _ => .stuck) := (rfl)
@[simp] theorem k_bl {k : Kd} {p : Bool} : isiD (.bl p) k st = .ok (.bl (decide (k = .bool ∨ k = .int))) st := by cases k <;> rfl
@[simp] theorem k_loc {k : Kd} : isiD (.loc n) k st = (match st[n]? with | some (.lst _) => .ok (.bl (decide (k = .lst))) st | _ => .stuck) := by
  show (ofO st (kindD st (.loc n))).bind _ = _
  unfold kindD
  cases h : st[n]? with
  | none => first | rfl | (simp only [h]; done) | (simp only [h]; rfl)
  | some c => cases c <;> cases k <;> first | rfl | (simp only [h]; done) | (simp only [h]; rfl)
@[simp] theorem l_loc : biD .len (.loc n) st = (match st[n]? with | some (.lst xs) => .ok (.int xs.length) st | _ => .stuck) := by
  show (ofO st (seqD st (.loc n))).bind _ = _
  unfold seqD
  cases h : st[n]? with
  | none => first | rfl | (simp only [h]; done) | (simp only [h]; rfl)
  | some c => cases c <;> first | rfl | (simp only [h]; done) | (simp only [h]; rfl)
@[simp] theorem l_fl : biD .len (.fl xs) st = .ok (.int xs.length) st := (rfl)
@[simp] theorem b_intI : biD .int (.int z) st = .ok (.int z) st := (rfl)
@[simp] theorem b_intB {p : Bool} : biD .int (.bl p) st = .ok (.int (if p then 1 else 0)) st := (rfl)
@[simp] theorem b_intS : biD .int (.str t) st = (ofO st (digitT t)).bind fun i st => .ok (.int i) st := (rfl)
@[simp] theorem b_strI : biD .str (.int z) st = if 0 ≤ z ∧ z < 10 then .ok (.str [48 + z.toNat]) st else .stuck := (rfl)
@[simp] theorem b_strS : biD .str (.str t) st = .ok (.str t) st := (rfl)
@[simp] theorem b_listT : biD .list (.tup xs) st = .ok (.loc st.length) (st ++ [.lst xs]) := (rfl)
@[simp] theorem b_listF : biD .list (.fl xs) st = .ok (.loc st.length) (st ++ [.lst xs]) := (rfl)
@[simp] theorem b_listS : biD .list (.str t) st = if t.length ≤ LIM then .ok (.loc st.length) (st ++ [.lst (t.map fun c => D.str [c])]) else .stuck := (rfl)
@[simp] theorem b_listL : biD .list (.loc n) st = (match st[n]? with | some (.lst xs) => .ok (.loc st.length) (st ++ [.lst xs]) | _ => .stuck) := by
  show (ofO st (seqD st (.loc n))).bind _ = _
  unfold seqD
  cases h : st[n]? with
  | none => first | rfl | (simp only [h]; done) | (simp only [h]; rfl)
  | some c => cases c <;> first | rfl | (simp only [h]; done) | (simp only [h]; rfl)
@[simp] theorem b_tupT : biD .tuple (.tup xs) st = .ok (.tup xs) st := (rfl)
@[simp] theorem b_tupL : biD .tuple (.loc n) st = (match st[n]? with | some (.lst xs) => .ok (.tup xs) st | _ => .stuck) := by
  show (ofO st (seqD st (.loc n))).bind _ = _
  unfold seqD
  cases h : st[n]? with
  | none => first | rfl | (simp only [h]; done) | (simp only [h]; rfl)
  | some c => cases c <;> first | rfl | (simp only [h]; done) | (simp only [h]; rfl)
@[simp] theorem b_sumL : biD .sum (.loc n) st = (match st[n]? with | some (.lst xs) => (ofO st (intsD xs)).bind fun ns st => .ok (.int ns.sum) st | _ => .stuck) := by
  show (ofO st (lstD st (.loc n))).bind _ = _
  unfold lstD
  cases h : st[n]? with
  | none => first | rfl | (simp only [h]; done) | (simp only [h]; rfl)
  | some c => cases c <;> first | rfl | (simp only [h]; done) | (simp only [h]; rfl)
/-- methods -/
theorem recv_loc {me : Me} (h : me ≠ .join ∧ me ≠ .split) : recvOk me st (.loc n) = (match st[n]? with | some (.lst _) => true | _ => false) := by
  have e : recvOk me st (.loc n) = decide (kindD st (.loc n) = some (some .lst)) := by cases me <;> first | exact absurd rfl h.1 | exact absurd rfl h.2 | rfl
  rw [e]
  unfold kindD
  cases h : st[n]? with
  | none => first | rfl | (simp only [h]; done) | (simp only [h]; rfl)
  | some c => cases c <;> first | rfl | (simp only [h]; done) | (simp only [h]; rfl)
@[simp] theorem rc_append : recvOk .append st (.loc n) = (match st[n]? with | some (.lst _) => true | _ => false) := recv_loc (by decide)
@[simp] theorem rc_pop : recvOk .pop st (.loc n) = (match st[n]? with | some (.lst _) => true | _ => false) := recv_loc (by decide)
@[simp] theorem rc_extend : recvOk .extend st (.loc n) = (match st[n]? with | some (.lst _) => true | _ => false) := recv_loc (by decide)
@[simp] theorem rc_index : recvOk .index st (.loc n) = (match st[n]? with | some (.lst _) => true | _ => false) := recv_loc (by decide)
@[simp] theorem rc_join : recvOk .join st (.str t) = true := (rfl)
@[simp] theorem rc_clear : recvOk .clear st (.loc n) = (match st[n]? with | some (.lst _) => true | _ => false) := recv_loc (by decide)
@[simp] theorem rc_split : recvOk .split st (.str t) = true := (rfl)
@[simp] theorem me_split {c : Nat} : me1D .split (.str t) (.str [c]) st = if c < 256 ∧ t.length + 2 ≤ LIM then .ok (.loc st.length) (st ++ [.lst ((splitT c t).map D.str)]) else .stuck := (rfl)
@[simp] theorem me_clear : me0D .clear (.loc n) st = (match st[n]? with | some (.lst _) => .ok .non (st.set n (.lst [])) | _ => .stuck) := (rfl)
@[simp] theorem me_pop : me0D .pop (.loc n) st = (match st[n]? with
    | some (.lst xs) => (match xs.getLast? with | some x => .ok x (st.set n (.lst xs.dropLast)) | none => .stuck)
    | _ => .stuck) := (rfl)
@[simp] theorem me_append : me1D .append (.loc n) y st = (match st[n]? with
    | some (.lst xs) => if xs.length < LIM then .ok .non (st.set n (.lst (xs ++ [y]))) else .stuck
    | _ => .stuck) := (rfl)
@[simp] theorem me_popAt : me1D .pop (.loc n) (.int z) st = (match st[n]? with
    | some (.lst xs) => (match L2.ixN xs.length z with
      | some k => (match xs[k]? with | some x => if xs.length ≤ LIM then .ok x (st.set n (.lst (xs.eraseIdx k))) else .stuck | none => .stuck)
      | none => .stuck)
    | _ => .stuck) := by
  cases h : st[n]? with
  | none => simp [me1D, h]
  | some c => cases c <;> simp [me1D, h] <;> rfl
@[simp] theorem me_extend : me1D .extend (.loc n) (.loc m) st = (match st[n]?, st[m]? with
      | some (.lst xs), some (.lst ys) => if xs.length + ys.length ≤ LIM then .ok .non (st.set n (.lst (xs ++ ys))) else .stuck
      | _, _ => .stuck) := (rfl)
@[simp] theorem me_extendT : me1D .extend (.loc n) (.tup ys) st = (match st[n]? with
      | some (.lst xs) => if xs.length + ys.length ≤ LIM then .ok .non (st.set n (.lst (xs ++ ys))) else .stuck
      | _ => .stuck) := (rfl)
@[simp] theorem me_join : me1D .join (.str t) (.loc n) st = (match st[n]? with
    | some (.lst xs) => (ofO st (strsD xs)).bind fun ys st => if (ys.map List.length).sum + ys.length * t.length ≤ LIM then .ok (.str (joinT t ys)) st else .stuck
    | _ => .stuck) := by
  show (ofO st (seqD st (.loc n))).bind _ = _
  unfold seqD
  cases h : st[n]? with
  | none => first | rfl | (simp only [h]; done) | (simp only [h]; rfl)
  | some c => cases c <;> first | rfl | (simp only [h]; done) | (simp only [h]; rfl)
@[simp] theorem ag_tup {is : List Nat} : asgT ρ (.tup is) (.tup xs) = if xs.length = is.length then some ((is.zip xs).foldl (fun ρ p => ρ.set p.1 (some p.2)) ρ) else none := (rfl)
@[simp] theorem ixN_zero {n : Nat} : L2.ixN (n + 1) 0 = some 0 := ixN_0
@[simp] theorem ixN_one {n : Nat} : L2.ixN (n + 2) 1 = some 1 := by
  unfold L2.ixN
  rw [if_pos (by decide), if_pos (by omega)]; rfl
theorem ixN_nat {n i : Nat} (h : i < n) : L2.ixN n (i : Int) = some i := by
  unfold L2.ixN
  rw [if_pos (by omega), if_pos (by omega)]; rfl
@[simp] theorem cl_non {k : Nat} : clD k .non = true := (rfl)
@[simp] theorem cl_bl {k : Nat} {p : Bool} : clD k (.bl p) = true := (rfl)
@[simp] theorem cl_int {k : Nat} : clD k (.int z) = true := (rfl)
@[simp] theorem cl_str {k : Nat} : clD k (.str t) = true := (rfl)
@[simp] theorem cl_tup {k : Nat} : clD k (.tup xs) = clDs k xs := by rw [clD]
@[simp] theorem cls_nil {k : Nat} : clDs k [] = true := (rfl)
@[simp] theorem cls_cons {k : Nat} : clDs k (x :: xs) = (clD k x && clDs k xs) := by rw [clDs]
@[simp] theorem LIM_eq : LIM = 100000 := (rfl)
@[simp] theorem rng_l {lo : Int} {n : Nat} : (rngW lo n).l = none := (rfl)
@[simp] theorem stays_none {xs : List D} : (Wk.mk xs none).stays st = true := (rfl)
@[simp] theorem stays_rng {lo : Int} {n : Nat} : (rngW lo n).stays st = true := (rfl)
end
theorem split_join {c : Nat} {parts : List Tx} (hne : parts ≠ []) (h : ∀ p ∈ parts, c ∉ p) : splitT c (joinT [c] parts) = parts := by
  have e : joinT [c] parts = TL.joinL [c] parts := by
    clear hne h
    induction parts with
    | nil => rfl
    | cons x r ih => cases r with
      | nil => rfl
      | cons y r => show x ++ [c] ++ joinT [c] (y :: r) = _; rw [ih]; simp [TL.joinL]
  rw [e]
  exact SX.spl_join hne h
end Z
/-! the draws' box; stores by their ends -/
namespace Z
structure Bx where
  ns : List Int
  s : Int
  few : ns.length ≤ 63
/-- the box stands at 0, its numbers at 1 -/
def bx (β : Bx) (r : Sto) : Sto := .lst [.loc 1, .int β.s] :: .lst (β.ns.map D.int) :: r
section
variable {β γ : Bx} {r l : Sto} {n : Nat} {c : Cell}
@[simp] theorem bx_len : (bx β r).length = r.length + 2 := (rfl)
@[simp] theorem bx_app : bx β r ++ l = bx β (r ++ l) := (rfl)
@[simp high] theorem bx_get : (bx β r)[n + 2]? = r[n]? := (rfl)
@[simp] theorem bx_set : (bx β r).set (n + 2) c = bx β (r.set n c) := (rfl)
@[simp high] theorem bx_0 : (bx β r)[0]? = some (.lst [.loc 1, .int β.s]) := (rfl)
@[simp high] theorem bx_1 : (bx β r)[1]? = some (.lst (β.ns.map D.int)) := (rfl)
@[simp high] theorem bx_s1 {ns : List Int} {s s' : Int} {few} : (bx ⟨ns, s, few⟩ r).set 0 (.lst [.loc 1, .int s']) = bx ⟨ns, s', few⟩ r := (rfl)
@[simp high] theorem bx_s0 {ns : List Int} {s n n' : Int} {few} : (bx ⟨n :: ns, s, few⟩ r).set 1 (.lst (.int n' :: ns.map D.int)) = bx ⟨n' :: ns, s, few⟩ r := (rfl)
@[simp high] theorem bx_sp {ns : List Int} {s n : Int} {few} : (bx ⟨n :: ns, s, few⟩ r).set 1 (.lst (ns.map D.int)) = bx ⟨ns, s, Nat.le_of_succ_le few⟩ r := (rfl)
variable {st : Sto} {m : Nat}
@[simp high] theorem bx_get2 {a b : Nat} : (bx β r)[a + (b + 2)]? = r[a + b]? := (rfl)
@[simp high] theorem bx_set2 {a b : Nat} : (bx β r).set (a + (b + 2)) c = bx β (r.set (a + b) c) := (rfl)
@[simp high] theorem cons_get2 {a b : Nat} : (c :: r)[a + (b + 1)]? = r[a + b]? := (rfl)
@[simp high] theorem cons_set2 {a b : Nat} {d : Cell} : (c :: r).set (a + (b + 1)) d = c :: r.set (a + b) d := (rfl)
@[simp high] theorem end_0 : (st ++ l)[st.length]? = l[0]? := by rw [List.getElem?_append_right (Nat.le_refl _), Nat.sub_self]
@[simp high] theorem end_n : (st ++ l)[st.length + n]? = l[n]? := by rw [List.getElem?_append_right (by omega), Nat.add_sub_cancel_left]
@[simp] theorem ends_0 : (st ++ l).set st.length c = st ++ l.set 0 c := by rw [List.set_append_right _ _ (Nat.le_refl _), Nat.sub_self]
@[simp] theorem ends_n : (st ++ l).set (st.length + n) c = st ++ l.set n c := by rw [List.set_append_right _ _ (by omega), Nat.add_sub_cancel_left]
theorem oldOk_bx {d : Sto} : OldOk (bx β r) (bx γ (r ++ d)) := fun i hi => by
  match i with
  | 1 => exact .inr (by rw [bx_1, Option.map_some]; show some (clDs _ _) = _; rw [clDs_ints])
  | 0 => exact .inr (by rw [bx_0, Option.map_some]; simp [clC, clDs, clD])
  | n + 2 => exact .inl (by simp only [bx_get]; exact List.getElem?_append_left (by simpa using hi))
theorem fin_bx {d : D} {g : Sto} (h : clD 0 d = true) : finish (bx β r) (.ok d (bx γ (r ++ g))) = .ok d (bx γ r) := by
  rw [finish_old oldOk_bx (all_mono (Nat.zero_le _) (clD_locs h))]
  simp [bx]
theorem fin_bxs {d : D} {g : Sto} {k : Nat} (hc : clC (r.length + 2) c = true) (h : clD 0 d = true) : finish (bx β r) (.ok d (bx γ (r.set k c ++ g))) = .ok d (bx γ (r.set k c)) := by
  have ho : OldOk (bx β r) (bx γ (r.set k c ++ g)) := fun i hi => by
    match i with
    | 1 => exact .inr (by rw [bx_1, Option.map_some]; show some (clDs _ _) = _; rw [clDs_ints])
    | 0 => exact .inr (by rw [bx_0, Option.map_some]; simp [clC, clDs, clD])
    | n + 2 =>
      have hn : n < r.length := by simpa using hi
      rw [bx_get, bx_get, List.getElem?_append_left (by rw [List.length_set]; exact hn)]
      by_cases e : k = n
      · subst e
        right
        rw [List.getElem?_set_self hn, Option.map_some, bx_len, hc]
      · left
        rw [List.getElem?_set_ne e]
  rw [finish_old ho (all_mono (Nat.zero_le _) (clD_locs h))]
  simp [bx]
/-- .. that hands back a new list -/
theorem fin_bxL {g : Sto} {j : Nat} (hc : g[j]? = some c) (h : locsC c = []) : finish (bx β r) (.ok (.loc (r.length + (j + 2))) (bx γ (r ++ g))) = .ok (.loc (r.length + 2)) (bx γ (r ++ [c])) := by
  have e : (bx γ (r ++ g))[r.length + (j + 2)]? = some c := by
    rw [← Nat.add_assoc, bx_get, end_n]; exact hc
  rw [finish_one oldOk_bx (by simp) e (by rw [h]; rfl)]
  simp [bx]
theorem fin_bx0 {d : D} (h : clD 0 d = true) : finish (bx β r) (.ok d (bx γ r)) = .ok d (bx γ r) := by
  have := fin_bx (β := β) (γ := γ) (r := r) (g := []) h
  rwa [List.append_nil] at this
end
section
variable {C : Cl} {ρ : Env} {st s1 : Sto} {e a : IE} {tg : IT} {own : List Nat} {it : II} {co : IO} {w : Wk} {x : D}
@[simp] theorem turnC_eq : turnC C tg own co e ρ x st = (match asgT (wipeE ρ own) tg x with
      | some ρ' => (evC C co ρ' st).bind fun k st => if k = true then (ev C e ρ' st).bind fun y st => .ok (some y) st else .ok none st
      | none => .stuck) := (rfl)
@[simp] theorem xc_none : evC C .none ρ st = .ok true st := by rw [evC]
@[simp] theorem xc_some : evC C (.some a) ρ st = (ev C a ρ st).bind fun x st => bOf st x := by rw [evC]
@[simp] theorem wipe_nil : wipeE ρ [] = ρ := (rfl)
@[simp] theorem wipe_cons {v : Nat} {vs : List Nat} : wipeE ρ (v :: vs) = (wipeE ρ vs).set v none := (rfl)
/-- a comprehension that leaves the store -/
theorem compL_filt {α : Type} {f : D → Sto → R (Option D)} {u v : α → D} {p : α → Bool} (hw : w.stays st = true) : ∀ (l : List α), (∀ a ∈ l, f (u a) st = .ok (if p a = true then some (v a) else none) st) → compL w f (l.map u) st = .ok ((l.filter p).map v) st
  | [], _ => by rw [List.map_nil]; unfold compL; rw [if_pos hw]; rfl
  | a :: l, h => by
    rw [List.map_cons]
    unfold compL
    rw [if_pos hw, h a List.mem_cons_self, R_bind_ok, compL_filt hw l fun y hy => h y (List.mem_cons_of_mem _ hy), R_bind_ok]
    by_cases hp : p a = true
    · rw [if_pos hp, List.filter_cons_of_pos hp, List.map_cons]
    · rw [if_neg hp, List.filter_cons_of_neg hp]
theorem comp_filt {α : Type} {u v : α → D} {p : α → Bool} {l : List α} (hit : evI C it ρ st = .ok w s1) (hw : w.stays s1 = true) (hx : w.xs = l.map u) (hl : l.length ≤ LIM)
    (h : ∀ a ∈ l, turnC C tg own co e ρ (u a) s1 = .ok (if p a = true then some (v a) else none) s1) : ev C (.comp e tg own it co) ρ st = .ok (.loc s1.length) (s1 ++ [.lst ((l.filter p).map v)]) := by
  rw [x_comp, hit, R_bind_ok, hx, compL_filt hw l h, R_noex_ok, R_bind_ok, if_pos]
  rw [List.length_map]
  exact Nat.le_trans (List.length_filter_le _ _) hl
theorem comp_map {α : Type} {u v : α → D} {l : List α} (hit : evI C it ρ st = .ok w s1) (hw : w.stays s1 = true) (hx : w.xs = l.map u) (hl : l.length ≤ LIM)
    (h : ∀ a ∈ l, turnC C tg own co e ρ (u a) s1 = .ok (some (v a)) s1) : ev C (.comp e tg own it co) ρ st = .ok (.loc s1.length) (s1 ++ [.lst (l.map v)]) := by
  have := comp_filt (p := fun _ => true) (v := v) hit hw hx hl (fun a ha => h a ha)
  rwa [List.filter_eq_self.mpr (fun _ _ => rfl)] at this
/-- .. over range(n) -/
theorem comp_rng {v : Nat → D} {n : Nat} (hit : evI C it ρ st = .ok (rngW 0 n) s1) (hl : n ≤ LIM)
    (h : ∀ i : Nat, i < n → turnC C tg own co e ρ (.int (i : Int)) s1 = .ok (some (v i)) s1) : ev C (.comp e tg own it co) ρ st = .ok (.loc s1.length) (s1 ++ [.lst ((List.range n).map v)]) := by
  refine comp_map (u := fun (i : Nat) => D.int (0 + (i : Int))) hit rfl rfl (by rwa [List.length_range]) fun i hi => ?_
  rw [Int.zero_add]
  exact h i (List.mem_range.mp hi)
theorem comp_rngf {v : Nat → D} {p : Nat → Bool} {n : Nat} (hit : evI C it ρ st = .ok (rngW 0 n) s1) (hl : n ≤ LIM)
    (h : ∀ i : Nat, i < n → turnC C tg own co e ρ (.int (i : Int)) s1 = .ok (if p i = true then some (v i) else none) s1) : ev C (.comp e tg own it co) ρ st = .ok (.loc s1.length) (s1 ++ [.lst (((List.range n).filter p).map v)]) := by
  refine comp_filt (u := fun (i : Nat) => D.int (0 + (i : Int))) hit rfl rfl (by rwa [List.length_range]) fun i hi => ?_
  rw [Int.zero_add]
  exact h i (List.mem_range.mp hi)
theorem loop_nil {b : Env → Sto → SR} (hw : w.stays st = true) : loopF w tg b [] ρ st = .ok .nx ρ st := by unfold loopF; rw [if_pos hw]
theorem loop_cons {b : Env → Sto → SR} {xs : List D} {ρ1 ρ2 : Env} {st2 : Sto} {r : SR} (hw : w.stays st = true) (ha : asgT ρ tg x = some ρ1) (hb : b ρ1 st = .ok .nx ρ2 st2) (hr : loopF w tg b xs ρ2 st2 = r) : loopF w tg b (x :: xs) ρ st = r := by
  unfold loopF; rw [if_pos hw, ha]; simp only; rw [hb]; exact hr
theorem set_same {c : Cell} {n : Nat} (h : st[n]? = some c) : st.set n c = st := by
  refine List.ext_getElem? fun i => ?_
  by_cases hi : i = n
  · subst hi; rw [set_here h, h]
  · rw [List.getElem?_set_ne (Ne.symm hi)]
theorem compL_nil {f : D → Sto → R (Option D)} (hw : w.stays st = true) : compL w f [] st = .ok [] st := by unfold compL; rw [if_pos hw]
theorem compL_cons {f : D → Sto → R (Option D)} {xs ys : List D} {y : D} {s2 : Sto} (hw : w.stays st = true) (hf : f x st = .ok (some y) s1) (hr : compL w f xs s1 = .ok ys s2) : compL w f (x :: xs) st = .ok (y :: ys) s2 := by
  unfold compL; rw [if_pos hw, hf, R_bind_ok, hr]; rfl
theorem compL_skip {f : D → Sto → R (Option D)} {xs ys : List D} {s2 : Sto} (hw : w.stays st = true) (hf : f x st = .ok none s1) (hr : compL w f xs s1 = .ok ys s2) : compL w f (x :: xs) st = .ok ys s2 := by
  unfold compL; rw [if_pos hw, hf, R_bind_ok, hr]; rfl
/-- a comprehension by its turns -/
theorem comp_ok {ys : List D} {s2 : Sto} (hit : evI C it ρ st = .ok w s1) (h : compL w (turnC C tg own co e ρ) w.xs s1 = .ok ys s2) (hl : ys.length ≤ LIM) : ev C (.comp e tg own it co) ρ st = .ok (.loc s2.length) (s2 ++ [.lst ys]) := by
  rw [x_comp, hit, R_bind_ok, h, R_noex_ok, R_bind_ok, if_pos hl]
@[simp] theorem stays_w {w : Wk} (h : w.l = none) : w.stays st = true := by unfold Wk.stays; rw [h]
theorem rng_len {n : Nat} : (rngW 0 n).xs.length = n := by simp [rngW]
/-- a walk by an invariant -/
theorem for_inv {α : Type} {b : Env → Sto → SR} (l : List α) (u : α → D) (P : Nat → Env → Sto → Prop) (hx : w.xs = l.map u) (hs : ∀ i ρ st, P i ρ st → w.stays st = true)
    (hstep : ∀ i a ρ st, l[i]? = some a → P i ρ st → ∃ ρ1 ρ2 st2, asgT ρ tg (u a) = some ρ1 ∧ (b ρ1 st = .ok .nx ρ2 st2 ∨ b ρ1 st = .ok .ct ρ2 st2) ∧ P (i + 1) ρ2 st2) (h0 : P 0 ρ st) :
    ∃ ρ' st', loopF w tg b w.xs ρ st = .ok .nx ρ' st' ∧ P l.length ρ' st' := by
  have key : ∀ (n j : Nat) (ρ : Env) (st : Sto), j + n = l.length → P j ρ st → ∃ ρ' st', loopF w tg b ((l.drop j).map u) ρ st = .ok .nx ρ' st' ∧ P l.length ρ' st' := by
    intro n
    induction n with
    | zero =>
      intro j ρ st h hp
      rw [List.drop_eq_nil_of_le (by omega)]
      refine ⟨ρ, st, ?_, by rwa [show l.length = j by omega]⟩
      rw [List.map_nil]; unfold loopF; rw [if_pos (hs _ _ _ hp)]
    | succ n ih =>
      intro j ρ st h hp
      have hj : j < l.length := by omega
      rw [List.drop_eq_getElem_cons hj, List.map_cons]
      obtain ⟨ρ1, ρ2, st2, h1, h2, h3⟩ := hstep j l[j] ρ st (List.getElem?_eq_getElem hj) hp
      obtain ⟨ρ', st', h4, h5⟩ := ih (j + 1) ρ2 st2 (by omega) h3
      refine ⟨ρ', st', ?_, h5⟩
      unfold loopF
      rw [if_pos (hs _ _ _ hp), h1]
      simp only
      rcases h2 with h2 | h2
      · rw [h2]; exact h4
      · rw [h2]; exact h4
  have := key l.length 0 ρ st (by simp) h0
  rwa [List.drop_zero, ← hx] at this
theorem for_rng {b : Env → Sto → SR} {n : Nat} (P : Nat → Env → Sto → Prop)
    (hstep : ∀ i ρ st, i < n → P i ρ st → ∃ ρ1 ρ2 st2, asgT ρ tg (.int (i : Int)) = some ρ1 ∧ (b ρ1 st = .ok .nx ρ2 st2 ∨ b ρ1 st = .ok .ct ρ2 st2) ∧ P (i + 1) ρ2 st2) (h0 : P 0 ρ st) :
    ∃ ρ' st', loopF (rngW 0 n) tg b (rngW 0 n).xs ρ st = .ok .nx ρ' st' ∧ P n ρ' st' := by
  have := for_inv (w := rngW 0 n) (tg := tg) (b := b) (ρ := ρ) (st := st) (List.range n) (fun (i : Nat) => D.int (0 + (i : Int))) P rfl (fun _ _ _ _ => rfl) (fun i a ρ st ha hp => by
    obtain ⟨h2, h3⟩ := List.getElem?_eq_some_iff.mp ha
    rw [List.getElem_range] at h3
    subst h3
    rw [Int.zero_add]
    exact hstep _ ρ st (by simpa using h2) hp) h0
  rwa [List.length_range] at this
/-- a while by a measure -/
theorem whl_inv {F : Nat} {c : IE} {b : ISs} {res : SR → Prop} (P : Nat → Env → Sto → Prop)
    (hstep : ∀ n ρ st, P n ρ st → (∃ s1, ev C c ρ st = .ok (.bl false) s1 ∧ res (.ok .nx ρ s1)) ∨ (∃ s1 ρ2 s2 m, ev C c ρ st = .ok (.bl true) s1 ∧ evSs C F b ρ s1 = .ok .nx ρ2 s2 ∧ m < n ∧ P m ρ2 s2) ∨
      ∃ s1 r, ev C c ρ st = .ok (.bl true) s1 ∧ evSs C F b ρ s1 = r ∧ (∀ f, r.turn f = r) ∧ res r) : ∀ (f n : Nat) (ρ : Env) (st : Sto), n < f → P n ρ st → res (loopW (evT C c) (evSs C F b) f ρ st) := by
  intro f
  induction f with
  | zero => intro n ρ st h; omega
  | succ f ih =>
    intro n ρ st hn hp
    rcases hstep n ρ st hp with ⟨s1, h1, h2⟩ | ⟨s1, ρ2, s2, m, h1, h2, h3, h4⟩ | ⟨s1, r, h1, h2, h3, h4⟩
    · rw [w_stop h1]; exact h2
    · rw [w_turn h1 h2 rfl]; exact ih m ρ2 s2 (by omega) h4
    · unfold loopW
      rw [evT, h1, R_bind_ok, bOf_bl, R_sbind_ok, if_pos rfl, h2, h3]
      exact h4
end
/-! plain data -/
mutual
theorem pl_cl {n : Nat} : ∀ {d : D}, plD d = true → clD n d = true
  | .non, _ => rfl
  | .int _, _ => rfl
  | .str _, _ => rfl
  | .tup xs, h => by rw [plD] at h; rw [clD]; exact pls_cl h
  | .bl _, h => by cases h
  | .loc _, h => by cases h
  | .fl _, h => by cases h
theorem pls_cl {n : Nat} : ∀ {d : List D}, plDs d = true → clDs n d = true
  | [], _ => rfl
  | x :: xs, h => by rw [plDs, Bool.and_eq_true] at h; rw [clDs, pl_cl h.1, pls_cl h.2]; rfl
end
mutual
theorem pl_locs : ∀ {d : D}, plD d = true → locsD d = []
  | .non, _ => rfl
  | .int _, _ => rfl
  | .str _, _ => rfl
  | .tup xs, h => by rw [plD] at h; rw [locsD]; exact pls_locs h
  | .bl _, h => by cases h
  | .loc _, h => by cases h
  | .fl _, h => by cases h
theorem pls_locs : ∀ {d : List D}, plDs d = true → locsDs d = []
  | [], _ => rfl
  | x :: xs, h => by rw [plDs, Bool.and_eq_true] at h; rw [locsDs, pl_locs h.1, pls_locs h.2]; rfl
end
mutual
theorem pl_pur : ∀ {d : D}, plD d = true → purD d = true
  | .non, _ => rfl
  | .int _, _ => rfl
  | .str _, _ => rfl
  | .tup xs, h => by rw [plD] at h; rw [purD]; exact pls_pur h
  | .bl _, h => by cases h
  | .loc _, h => by cases h
  | .fl _, h => by cases h
theorem pls_pur : ∀ {d : List D}, plDs d = true → purDs d = true
  | [], _ => rfl
  | x :: xs, h => by rw [plDs, Bool.and_eq_true] at h; rw [purDs, pl_pur h.1, pls_pur h.2]; rfl
end
theorem plDs_map {α : Type} {u : α → D} : ∀ {l : List α}, (∀ a ∈ l, plD (u a) = true) → plDs (l.map u) = true
  | [], _ => rfl
  | a :: l, h => by rw [List.map_cons, plDs, h a List.mem_cons_self, plDs_map fun b hb => h b (List.mem_cons_of_mem _ hb)]; rfl
theorem depDs_map {α : Type} {u : α → D} {n : Nat} : ∀ {l : List α}, (∀ a ∈ l, depD (u a) ≤ n) → depDs (l.map u) ≤ n
  | [], _ => Nat.zero_le _
  | a :: l, h => by
    rw [List.map_cons, depDs]
    have := h a List.mem_cons_self
    have := depDs_map fun b hb => h b (List.mem_cons_of_mem _ hb)
    omega
theorem oldOk_nil (st : Sto) : OldOk [] st := fun i hi => absurd hi (by simp)
theorem fin_eq (st0 st : Sto) (d : D) : finish st0 (.ok d st) = if OldOk st0 st then gcD st0.length (reach st0.length st 40 (locsD d) []) d st else .ok d st := rfl
theorem rnDs_free' {g : Nat → Nat} {ds : List D} (h : locsDs ds = []) : rnDs g ds = ds := rnDs_id (p := fun _ => false) (fun _ z => by cases z) (by rw [h]; rfl)
theorem fin_begun {ns : List Int} {s : Int} {hl : ns.length ≤ 63} : finish [] (.ok (.loc 1) [.lst (ns.map D.int), .lst [.loc 0, .int s]]) = .ok (.loc 0) (bx ⟨ns, s, hl⟩ []) := by
  have hl : locsDs (ns.map D.int) = [] := by
    clear hl
    induction ns with
    | nil => rfl
    | cons x xs ih => rw [List.map_cons, locsDs, ih]; rfl
  rw [fin_eq, if_pos (oldOk_nil _)]
  have hr : reach 0 [.lst (ns.map D.int), .lst [.loc 0, .int s]] 40 (locsD (.loc 1)) [] = [1, 0] := by
    have h1 : locsC (.lst [.loc 0, .int s]) = [0] := rfl
    have h0 : locsC (.lst (ns.map D.int)) = [] := hl
    show reach 0 _ 40 [1] [] = _
    rw [reach, if_neg (by simp)]
    show reach 0 _ 39 ([] ++ locsC (.lst [.loc 0, .int s])) ([] ++ [1]) = _
    rw [h1]
    show reach 0 _ 39 [0] [1] = _
    rw [reach, if_neg (by simp)]
    show reach 0 _ 38 ([] ++ locsC (.lst (ns.map D.int))) ([1] ++ [0]) = _
    rw [h0]; rfl
  show gcD 0 (reach 0 _ 40 _ []) _ _ = _
  rw [hr]
  unfold gcD
  rw [if_pos]
  · show R.ok (D.loc (newN 0 [1, 0] 1)) ([] ++ [rnC _ (.lst [.loc 0, .int s]), rnC _ (.lst (ns.map D.int))]) = _
    have e1 : newN 0 [1, 0] 1 = 0 := rfl
    have e0 : newN 0 [1, 0] 0 = 1 := rfl
    show R.ok _ [Cell.lst [.loc (newN 0 [1, 0] 0), .int s], Cell.lst (rnDs _ (ns.map D.int))] = _
    rw [e1, e0, rnDs_free' hl]; rfl
  · refine ⟨by simp, ?_, by simp [locsD, okN]⟩
    intro k hk
    simp only [List.mem_cons, List.not_mem_nil, or_false] at hk
    rcases hk with rfl | rfl
    · exact ⟨Nat.zero_le _, by simp [locsC, locsDs, locsD, okN]⟩
    · refine ⟨Nat.zero_le _, ?_⟩
      show some ((locsDs (ns.map D.int)).all _) = _
      rw [hl]; rfl
section
variable {α : Type}
theorem cut_take (xs : List α) (n : Nat) : cutD xs none (some (n : Int)) = xs.take n := by
  unfold cutD
  rw [HT.sIx_none, HT.sIx_nat, List.drop_zero, Nat.sub_zero]
  by_cases h : n ≤ xs.length
  · rw [Nat.min_eq_left h]
  · rw [Nat.min_eq_right (by omega), List.take_length, List.take_of_length_le (by omega)]
@[simp] theorem cut_take1 (xs : List α) : cutD xs none (some 1) = xs.take 1 := cut_take xs 1
theorem cut_drop (xs : List α) (n : Nat) : cutD xs (some (n : Int)) none = xs.drop n := by
  unfold cutD
  rw [HT.sIx_none, HT.sIx_nat]
  by_cases h : n ≤ xs.length
  · rw [Nat.min_eq_left h, List.take_of_length_le (by rw [List.length_drop]; omega)]
  · rw [Nat.min_eq_right (by omega), Nat.sub_self, List.take_zero, List.drop_eq_nil_of_le (by omega)]
@[simp] theorem cut_drop1 (xs : List α) : cutD xs (some 1) none = xs.drop 1 := cut_drop xs 1
@[simp] theorem cut_init (xs : List α) : cutD xs none (some (-1)) = xs.dropLast := by
  unfold cutD
  rw [HT.sIx_none, List.drop_zero, Nat.sub_zero, List.dropLast_eq_take]
  congr 1
  unfold HT.sIx
  simp only
  rw [if_pos (by decide)]; omega
@[simp] theorem cut_all (xs : List α) : cutD xs none none = xs := by
  unfold cutD
  rw [HT.sIx_none, HT.sIx_none, List.drop_zero, Nat.sub_zero, List.take_length]
end
end Z
/-! trees, patterns, builds, rules as data -/
namespace Z
inductive T where
  | node (c : Nat) (ks : List T)

mutual
def dT : T → D
  | .node c ks => .tup [.str [c], .tup (dTs ks)]
def dTs : List T → List D
  | [] => []
  | t :: ts => dT t :: dTs ts
end
mutual
def sz : T → Nat
  | .node _ ks => 1 + szs ks
def szs : List T → Nat
  | [] => 0
  | t :: ts => sz t + szs ts
end
mutual
def ht : T → Nat
  | .node _ ks => 1 + hts ks
def hts : List T → Nat
  | [] => 0
  | t :: ts => max (ht t) (hts ts)
end
mutual
def okT : T → Prop
  | .node c ks => (97 ≤ c ∧ c ≤ 102) ∧ ks.length ≤ 3 ∧ okTs ks
def okTs : List T → Prop
  | [] => True
  | t :: ts => okT t ∧ okTs ts
end
mutual
def tx : T → Tx
  | .node c ks => if ks.isEmpty = true then [c] else c :: 40 :: (joinT [44] (txs ks) ++ [41])
def txs : List T → List Tx
  | [] => []
  | t :: ts => tx t :: txs ts
end
theorem dTs_map : ∀ ts : List T, dTs ts = ts.map dT
  | [] => by rw [dTs]; rfl
  | t :: ts => by rw [dTs, dTs_map ts]; rfl
theorem txs_map : ∀ ts : List T, txs ts = ts.map tx
  | [] => by rw [txs]; rfl
  | t :: ts => by rw [txs, txs_map ts]; rfl
theorem hts_le {ts : List T} : ∀ {t : T}, t ∈ ts → ht t ≤ hts ts := by
  induction ts with
  | nil => intro t h; cases h
  | cons u us ih =>
    intro t h
    rw [hts]
    rcases List.mem_cons.mp h with rfl | h
    · exact Nat.le_max_left _ _
    · exact Nat.le_trans (ih h) (Nat.le_max_right _ _)
theorem okTs_mem {ts : List T} : ∀ {t : T}, okTs ts → t ∈ ts → okT t := by
  induction ts with
  | nil => intro t _ h; cases h
  | cons u us ih =>
    intro t o h
    rw [okTs] at o
    rcases List.mem_cons.mp h with rfl | h
    · exact o.1
    · exact ih o.2 h
mutual
theorem dT_cl : ∀ (t : T), clD 0 (dT t) = true
  | .node c ks => by
    rw [dT]
    simp only [clD, clDs, Bool.and_true, Bool.true_and]
    exact dTs_cl ks
theorem dTs_cl : ∀ (ts : List T), clDs 0 (dTs ts) = true
  | [] => by rw [dTs]; rfl
  | t :: ts => by rw [dTs, clDs, dT_cl t, dTs_cl ts]; rfl
end
theorem join_len (ts : List Tx) : (joinT [44] ts).length ≤ (ts.map List.length).sum + ts.length := by
  induction ts with
  | nil => simp [joinT]
  | cons x r ih =>
    cases r with
    | nil => simp [joinT]
    | cons y r =>
      rw [joinT]
      simp only [List.length_append, List.length_cons, List.length_nil, List.map_cons, List.sum_cons] at ih ⊢
      omega
mutual
theorem tx_len : ∀ (t : T), (tx t).length + 2 ≤ 4 * sz t
  | .node c ks => by
    rw [tx, sz]
    split
    · simp; omega
    · rename_i h
      have h1 := txs_len ks
      have h2 := join_len (txs ks)
      have h3 : (txs ks).length = ks.length := by rw [txs_map]; simp
      have h4 : 1 ≤ ks.length := by cases ks with
        | nil => simp at h
        | cons => simp
      simp only [List.length_cons, List.length_append, List.length_nil]
      omega
theorem txs_len : ∀ (ts : List T), ((txs ts).map List.length).sum + 2 * ts.length ≤ 4 * szs ts
  | [] => by rw [txs, szs]; simp
  | t :: ts => by
    have h1 := tx_len t
    have h2 := txs_len ts
    rw [txs, szs]
    simp only [List.map_cons, List.sum_cons, List.length_cons]
    omega
end

theorem isE_dTs (ks : List T) : (dTs ks).isEmpty = ks.isEmpty := by cases ks <;> simp [dTs]
theorem szs_mem {ts : List T} : ∀ {t : T}, t ∈ ts → sz t ≤ szs ts := by
  induction ts with
  | nil => intro t h; cases h
  | cons u us ih =>
    intro t h
    rw [szs]
    rcases List.mem_cons.mp h with rfl | h
    · omega
    · have := ih h; omega
theorem ht_pos (t : T) : 1 ≤ ht t := by cases t; rw [ht]; omega

theorem dTs_app (a b : List T) : dTs (a ++ b) = dTs a ++ dTs b := by rw [dTs_map, dTs_map, dTs_map, List.map_append]
theorem take_int {L : List Nat} {r : Int} (h0 : 0 ≤ r) (h1 : r < L.length) : ∃ x, x ∈ L ∧ L2.atI L r = some x := by
  obtain ⟨n, rfl⟩ := Int.eq_ofNat_of_zero_le h0
  have h : n < L.length := by omega
  exact ⟨L[n], List.getElem_mem h, atI_nat (List.getElem?_eq_getElem h)⟩
theorem szs_app (a b : List T) : szs (a ++ b) = szs a + szs b := by
  induction a with
  | nil => simp [szs]
  | cons x a ih => rw [List.cons_append, szs, szs, ih]; omega
theorem hts_app (a b : List T) : hts (a ++ b) = max (hts a) (hts b) := by
  induction a with
  | nil => simp [hts]
  | cons x a ih => rw [List.cons_append, hts, hts, ih]; omega
theorem okTs_app (a b : List T) : okTs (a ++ b) ↔ okTs a ∧ okTs b := by
  induction a with
  | nil => simp [okTs]
  | cons x a ih => rw [List.cons_append, okTs, okTs, ih, and_assoc]

inductive Pt where
  | any | leaf | node (c : Nat) (ks : List Pt)
mutual
def dP : Pt → D
  | .any => (.tup [.str [97, 110, 121]])
  | .leaf => (.tup [.str [108, 101, 97, 102]])
  | .node c ks => .tup [.str [c], .tup (dPs ks)]
def dPs : List Pt → List D
  | [] => []
  | t :: ts => dP t :: dPs ts
end
mutual
def szP : Pt → Nat
  | .any => 1 | .leaf => 1
  | .node _ ks => 1 + szPs ks
def szPs : List Pt → Nat
  | [] => 0
  | t :: ts => szP t + szPs ts
end
mutual
def htP : Pt → Nat
  | .any => 1 | .leaf => 1
  | .node _ ks => 1 + htPs ks
def htPs : List Pt → Nat
  | [] => 0
  | t :: ts => max (htP t) (htPs ts)
end
mutual
def okP : Pt → Prop
  | .any => True | .leaf => True
  | .node c ks => (97 ≤ c ∧ c ≤ 102) ∧ ks.length ≤ 3 ∧ okPs ks
def okPs : List Pt → Prop
  | [] => True
  | t :: ts => okP t ∧ okPs ts
end
theorem dPs_map : ∀ ts : List Pt, dPs ts = ts.map dP
  | [] => by rw [dPs]; rfl
  | t :: ts => by rw [dPs, dPs_map ts]; rfl
theorem htPs_le {ts : List Pt} : ∀ {t : Pt}, t ∈ ts → htP t ≤ htPs ts := by
  induction ts with
  | nil => intro t h; cases h
  | cons u us ih =>
    intro t h
    rw [htPs]
    rcases List.mem_cons.mp h with rfl | h
    · exact Nat.le_max_left _ _
    · exact Nat.le_trans (ih h) (Nat.le_max_right _ _)
theorem okPs_mem {ts : List Pt} : ∀ {t : Pt}, okPs ts → t ∈ ts → okP t := by
  induction ts with
  | nil => intro t _ h; cases h
  | cons u us ih =>
    intro t o h
    rw [okPs] at o
    rcases List.mem_cons.mp h with rfl | h
    · exact o.1
    · exact ih o.2 h
theorem szPs_mem {ts : List Pt} : ∀ {t : Pt}, t ∈ ts → szP t ≤ szPs ts := by
  induction ts with
  | nil => intro t h; cases h
  | cons u us ih =>
    intro t h
    rw [szPs]
    rcases List.mem_cons.mp h with rfl | h
    · omega
    · have := ih h; omega
theorem htP_pos (t : Pt) : 1 ≤ htP t := by cases t <;> rw [htP] <;> omega
mutual
theorem dP_pl : ∀ t : Pt, okP t → plD (dP t) = true
  | .any, _ => by rw [dP]; decide
  | .leaf, _ => by rw [dP]; decide
  | .node c ks, h => by
    rw [okP] at h
    rw [dP]
    simp only [plD, plDs, dPs_pl ks h.2.2, Bool.and_true, List.all_cons, List.all_nil, decide_eq_true_eq, Bool.and_eq_true, List.length_cons, List.length_nil]
    exact ⟨by decide, by omega⟩
theorem dPs_pl : ∀ ts : List Pt, okPs ts → plDs (dPs ts) = true
  | [], _ => by rw [dPs]; rfl
  | t :: ts, h => by
    rw [okPs] at h
    rw [dPs, plDs, dP_pl t h.1, dPs_pl ts h.2]; rfl
end
mutual
theorem dP_dep : ∀ t : Pt, depD (dP t) ≤ 2 * htP t + 1
  | .any => by rw [dP, htP]; decide
  | .leaf => by rw [dP, htP]; decide
  | .node c ks => by rw [dP, htP]; simp only [depD, depDs]; have := dPs_dep ks; omega
theorem dPs_dep : ∀ ts : List Pt, depDs (dPs ts) ≤ 2 * htPs ts + 1
  | [] => by rw [dPs]; simp [depDs]
  | t :: ts => by rw [dPs, depDs, htPs]; have := dP_dep t; have := dPs_dep ts; omega
end

theorem szPs_sum (ts : List Pt) : (ts.map fun t => (szP t : Int)).sum = (szPs ts : Int) := by
  induction ts with
  | nil => rfl
  | cons t ts ih => rw [List.map_cons, List.sum_cons, ih, szPs]; omega

inductive Bd where
  | go (s : Nat) (p : List Nat)
  | node (c : Nat) (ks : List Bd)
def dPa (p : List Nat) : D := .tup (p.map fun (i : Nat) => D.int i)
mutual
def dB : Bd → D
  | .go s p => .tup [.str [100, 111], .int s, dPa p]
  | .node c ks => .tup [.str [c], .tup (dBs ks)]
def dBs : List Bd → List D
  | [] => []
  | t :: ts => dB t :: dBs ts
end
mutual
def szB : Bd → Nat
  | .go _ _ => 1
  | .node _ ks => 1 + szBs ks
def szBs : List Bd → Nat
  | [] => 0
  | t :: ts => szB t + szBs ts
end
mutual
def htB : Bd → Nat
  | .go _ _ => 1
  | .node _ ks => 1 + htBs ks
def htBs : List Bd → Nat
  | [] => 0
  | t :: ts => max (htB t) (htBs ts)
end
/-- the part of a pattern at a path -/
def subP : Pt → List Nat → Option Pt
  | p, [] => some p
  | .node _ ks, i :: r => match ks[i]? with | some q => subP q r | none => none
  | _, _ :: _ => none
mutual
def okB (P : Pt) : Bd → Prop
  | .go s p => s ≤ 5 ∧ 1 ≤ p.length ∧ p.length ≤ 2 ∧ ∃ q, subP P p = some q
  | .node c ks => (97 ≤ c ∧ c ≤ 102) ∧ ks.length ≤ 3 ∧ okBs P ks
def okBs (P : Pt) : List Bd → Prop
  | [] => True
  | t :: ts => okB P t ∧ okBs P ts
end
theorem dBs_map : ∀ ts : List Bd, dBs ts = ts.map dB
  | [] => by rw [dBs]; rfl
  | t :: ts => by rw [dBs, dBs_map ts]; rfl
theorem htBs_le {ts : List Bd} : ∀ {t : Bd}, t ∈ ts → htB t ≤ htBs ts := by
  induction ts with
  | nil => intro t h; cases h
  | cons u us ih =>
    intro t h
    rw [htBs]
    rcases List.mem_cons.mp h with rfl | h
    · exact Nat.le_max_left _ _
    · exact Nat.le_trans (ih h) (Nat.le_max_right _ _)
theorem szBs_mem {ts : List Bd} : ∀ {t : Bd}, t ∈ ts → szB t ≤ szBs ts := by
  induction ts with
  | nil => intro t h; cases h
  | cons u us ih =>
    intro t h
    rw [szBs]
    rcases List.mem_cons.mp h with rfl | h
    · omega
    · have := ih h; omega
theorem okBs_mem {P : Pt} {ts : List Bd} : ∀ {t : Bd}, okBs P ts → t ∈ ts → okB P t := by
  induction ts with
  | nil => intro t _ h; cases h
  | cons u us ih =>
    intro t o h
    rw [okBs] at o
    rcases List.mem_cons.mp h with rfl | h
    · exact o.1
    · exact ih o.2 h
theorem htB_pos (t : Bd) : 1 ≤ htB t := by cases t <;> rw [htB] <;> omega
theorem szBs_sum (ts : List Bd) : (ts.map fun t => (szB t : Int)).sum = (szBs ts : Int) := by
  induction ts with
  | nil => rfl
  | cons t ts ih => rw [List.map_cons, List.sum_cons, ih, szBs]; omega

/-! spots, rules -/
inductive Sp where
  | no | top | under (c : Nat) | kid (i : Nat)
def dSp : Sp → D
  | .no => .non
  | .top => .tup [.str [116, 111, 112]]
  | .under c => .tup [.str [117, 110, 100, 101, 114], .str [c]]
  | .kid i => .tup [.str [107, 105, 100], .int i]
def okSp : Sp → Prop
  | .no => True | .top => True
  | .under c => 97 ≤ c ∧ c ≤ 102
  | .kid i => i ≤ 2
theorem dSp_pl (s : Sp) (h : okSp s) : plD (dSp s) = true := by
  cases s with
  | no => rfl
  | top => decide
  | under c =>
    have h : 97 ≤ c ∧ c ≤ 102 := h
    simp [dSp, plD, plDs, LIM]; omega
  | kid i => simp [dSp, plD, plDs, LIM]
theorem dSp_dep (s : Sp) : depD (dSp s) ≤ 2 := by cases s <;> simp [dSp, depD, depDs]

structure Ru where
  s : Nat
  sp : Sp
  p : Pt
  b : Bd
def dR (r : Ru) : D := .tup [.int r.s, dSp r.sp, dP r.p, dB r.b]
structure okR (r : Ru) : Prop where
  s : r.s ≤ 5
  sp : okSp r.sp
  p : okP r.p
  ph : htP r.p ≤ 3
  pz : szP r.p ≤ 7
  b : okB r.p r.b
  bh : htB r.b ≤ 4
  bz : szB r.b ≤ 12

end Z
/-! trees, patterns, builds, rules: plain data -/
namespace Z
mutual
theorem dT_pl : ∀ t : T, okT t → plD (dT t) = true
  | .node c ks, h => by
    rw [okT] at h
    rw [dT]
    simp only [plD, plDs, dTs_pl ks h.2.2, Bool.and_true, List.all_cons, List.all_nil, decide_eq_true_eq, Bool.and_eq_true, List.length_cons, List.length_nil]
    exact ⟨by decide, by omega⟩
theorem dTs_pl : ∀ ts : List T, okTs ts → plDs (dTs ts) = true
  | [], _ => by rw [dTs]; rfl
  | t :: ts, h => by
    rw [okTs] at h
    rw [dTs, plDs, dT_pl t h.1, dTs_pl ts h.2]; rfl
end
mutual
theorem dT_dep : ∀ t : T, depD (dT t) ≤ 2 * ht t + 1
  | .node c ks => by rw [dT, ht]; simp only [depD, depDs]; have := dTs_dep ks; omega
theorem dTs_dep : ∀ ts : List T, depDs (dTs ts) ≤ 2 * hts ts + 1
  | [] => by rw [dTs]; simp [depDs]
  | t :: ts => by rw [dTs, depDs, hts]; have := dT_dep t; have := dTs_dep ts; omega
end
theorem dPa_pl (p : List Nat) : plD (dPa p) = true := by
  unfold dPa
  rw [plD]
  exact plDs_map fun _ _ => rfl
theorem dPa_dep (p : List Nat) : depD (dPa p) ≤ 2 := by
  unfold dPa
  rw [depD]
  have := depDs_map (u := fun (i : Nat) => D.int i) (n := 1) (l := p) fun _ _ => by simp [depD]
  omega
mutual
theorem dB_pl {P : Pt} : ∀ t : Bd, okB P t → plD (dB t) = true
  | .go s p, h => by rw [dB]; simp [plD, plDs, dPa_pl, LIM]
  | .node c ks, h => by
    rw [okB] at h
    rw [dB]
    simp only [plD, plDs, dBs_pl ks h.2.2, Bool.and_true, List.all_cons, List.all_nil, decide_eq_true_eq, Bool.and_eq_true, List.length_cons, List.length_nil]
    exact ⟨by decide, by omega⟩
theorem dBs_pl {P : Pt} : ∀ ts : List Bd, okBs P ts → plDs (dBs ts) = true
  | [], _ => by rw [dBs]; rfl
  | t :: ts, h => by
    rw [okBs] at h
    rw [dBs, plDs, dB_pl t h.1, dBs_pl ts h.2]; rfl
end
mutual
theorem dB_dep : ∀ t : Bd, depD (dB t) ≤ 2 * htB t + 1
  | .go s p => by rw [dB, htB]; simp only [depD, depDs]; have := dPa_dep p; omega
  | .node c ks => by rw [dB, htB]; simp only [depD, depDs]; have := dBs_dep ks; omega
theorem dBs_dep : ∀ ts : List Bd, depDs (dBs ts) ≤ 2 * htBs ts + 1
  | [] => by rw [dBs]; simp [depDs]
  | t :: ts => by rw [dBs, depDs, htBs]; have := dB_dep t; have := dBs_dep ts; omega
end
theorem dR_pl {r : Ru} (h : okR r) : plD (dR r) = true := by
  unfold dR
  simp [plD, plDs, dSp_pl _ h.sp, dP_pl _ h.p, dB_pl _ h.b]
theorem dR_dep {r : Ru} (h : okR r) : depD (dR r) ≤ 10 := by
  unfold dR
  have h1 := dSp_dep r.sp
  have h2 := dP_dep r.p
  have h3 := dB_dep r.b
  have := h.ph
  have := h.bh
  simp only [depD, depDs]
  omega
/-- rules of a book -/
structure okBk (rs : List Ru) : Prop where
  few : rs.length ≤ 16
  ok : ∀ r ∈ rs, okR r
theorem okBk.pl {rs : List Ru} (h : okBk rs) : plDs (rs.map dR) = true := plDs_map fun r hr => dR_pl (h.ok r hr)
theorem okBk.dep {rs : List Ru} (h : okBk rs) : depDs (rs.map dR) ≤ 10 := depDs_map fun r hr => dR_dep (h.ok r hr)
mutual
theorem sizD_T : ∀ t : T, sizD (dT t) + 1 ≤ 6 * sz t
  | .node c ks => by rw [dT, sz]; simp only [sizD, sizDs]; have := sizDs_T ks; omega
theorem sizDs_T : ∀ ts : List T, sizDs (dTs ts) ≤ 6 * szs ts
  | [] => by rw [dTs]; simp [sizDs]
  | t :: ts => by rw [dTs, sizDs, szs]; have := sizD_T t; have := sizDs_T ts; omega
end
theorem sz_pos (t : T) : 1 ≤ sz t := by cases t; rw [sz]; omega
end Z
/-! what fits; places; the parts of patterns -/
namespace Z
mutual
def fitsP : Pt → T → Bool
  | .any, _ => true
  | .leaf, .node _ ks => ks.isEmpty
  | .node c ps, .node d ks => decide (c = d) && fitsPs ps ks
def fitsPs : List Pt → List T → Bool
  | [], [] => true
  | p :: ps, k :: ks => fitsP p k && fitsPs ps ks
  | _, _ => false
end
theorem fitsPs_len : ∀ {ps : List Pt} {ks : List T}, ps.length ≠ ks.length → fitsPs ps ks = false
  | [], [], h => absurd rfl h
  | [], _ :: _, _ => by rw [fitsPs] <;> simp
  | _ :: _, [], _ => by rw [fitsPs] <;> simp
  | p :: ps, k :: ks, h => by
    rw [fitsPs, fitsPs_len (by simpa using h), Bool.and_false]
theorem fitsPs_range : ∀ {ps : List Pt} {ks : List T}, ps.length = ks.length → ((List.range ks.length).filter fun i => !fitsP (ps.getD i .any) (ks.getD i (.node 0 []))).isEmpty = fitsPs ps ks
  | [], [], _ => rfl
  | [], _ :: _, h => by cases h
  | _ :: _, [], h => by cases h
  | p :: ps, k :: ks, h => by
    rw [fitsPs, ← fitsPs_range (by simpa using h), List.length_cons, List.range_succ_eq_map, List.filter_cons, List.filter_map]
    simp only [List.getD_cons_zero]
    cases hp : fitsP p k
    · simp
    · simp only [Bool.not_true, Bool.false_eq_true, if_false, Bool.true_and, List.isEmpty_map]
      rfl
mutual
/-- all places, in turn -/
def plT : T → List (List Nat × T)
  | .node c ks => ([], .node c ks) :: plTs 0 ks
def plTs (i : Nat) : List T → List (List Nat × T)
  | [] => []
  | t :: ts => (plT t).map (fun p => (i :: p.1, p.2)) ++ plTs (i + 1) ts
end
mutual
theorem plT_len : ∀ t : T, (plT t).length = sz t
  | .node c ks => by rw [plT, sz, List.length_cons, plTs_len 0 ks]; omega
theorem plTs_len : ∀ (i : Nat) (ts : List T), (plTs i ts).length = szs ts
  | i, [] => rfl
  | i, t :: ts => by rw [plTs, szs, List.length_append, List.length_map, plT_len t, plTs_len (i + 1) ts]
end
mutual
theorem plT_mem : ∀ {t : T} {p : List Nat × T}, p ∈ plT t → (okT t → okT p.2) ∧ p.1.length + ht p.2 ≤ ht t
  | .node c ks, p, h => by
    rw [plT] at h
    rcases List.mem_cons.mp h with rfl | h
    · exact ⟨id, by simp⟩
    · have := plTs_mem h
      rw [okT, ht]
      exact ⟨fun o => this.1 o.2.2, by omega⟩
theorem plTs_mem : ∀ {i : Nat} {ts : List T} {p : List Nat × T}, p ∈ plTs i ts → (okTs ts → okT p.2) ∧ p.1.length + ht p.2 ≤ hts ts + 1
  | i, [], p, h => nomatch h
  | i, t :: ts, p, h => by
    rw [plTs] at h
    rw [okTs, hts]
    rcases List.mem_append.mp h with h | h
    · obtain ⟨q, hq, rfl⟩ := List.mem_map.mp h
      have := plT_mem hq
      exact ⟨fun o => this.1 o.1, by simp only [List.length_cons]; omega⟩
    · have := plTs_mem h
      exact ⟨fun o => this.1 o.2, by omega⟩
end
/-- kids stand behind -/
def Ord : List (List Nat × T) → Prop
  | [] => True
  | (p, .node _ ks) :: B => (∀ k, k < ks.length → ∃ t, ks[k]? = some t ∧ (p ++ [k], t) ∈ B) ∧ Ord B
theorem Ord.app : ∀ {A B : List (List Nat × T)}, Ord A → Ord B → Ord (A ++ B)
  | [], B, _, h => h
  | (p, .node _ ks) :: A, B, h, g => ⟨fun k hk => by
      obtain ⟨t, h1, h2⟩ := h.1 k hk
      exact ⟨t, h1, List.mem_append.mpr (.inl h2)⟩, Ord.app h.2 g⟩
theorem Ord.pre (q : List Nat) : ∀ {A : List (List Nat × T)}, Ord A → Ord (A.map fun p => (q ++ p.1, p.2))
  | [], _ => trivial
  | (p, .node _ ks) :: A, h => ⟨fun k hk => by
      obtain ⟨t, h1, h2⟩ := h.1 k hk
      exact ⟨t, h1, List.mem_map.mpr ⟨(p ++ [k], t), h2, by simp⟩⟩, Ord.pre q h.2⟩
theorem plTs_at : ∀ {i k : Nat} {ts : List T} {t : T}, ts[k]? = some t → ([i + k], t) ∈ plTs i ts
  | i, 0, t :: ts, _, h => by
    cases h
    rw [plTs]
    cases t
    rw [plT]
    simp
  | i, k + 1, t :: ts, u, h => by
    rw [plTs]
    have := plTs_at (i := i + 1) (ts := ts) (k := k) (by simpa using h)
    rw [show i + 1 + k = i + (k + 1) by omega] at this
    exact List.mem_append.mpr (.inr this)
mutual
theorem plT_ord : ∀ t : T, Ord (plT t)
  | .node c ks => by
    rw [plT]
    refine ⟨fun k hk => ⟨ks[k], List.getElem?_eq_getElem hk, ?_⟩, plTs_ord 0 ks⟩
    have := plTs_at (i := 0) (List.getElem?_eq_getElem hk)
    simpa using this
theorem plTs_ord : ∀ (i : Nat) (ts : List T), Ord (plTs i ts)
  | i, [] => trivial
  | i, t :: ts => by
    rw [plTs]
    exact Ord.app (Ord.pre [i] (plT_ord t)) (plTs_ord (i + 1) ts)
end
/-- the tree at a place -/
def subT : T → List Nat → Option T
  | t, [] => some t
  | .node _ ks, i :: r => match ks[i]? with | some q => subT q r | none => none
mutual
theorem plT_sub : ∀ {t : T} {p : List Nat × T}, p ∈ plT t → subT t p.1 = some p.2
  | .node c ks, p, h => by
    rw [plT] at h
    rcases List.mem_cons.mp h with rfl | h
    · rw [subT]
    · obtain ⟨k, r, e1, e2, e3⟩ := plTs_sub h
      rw [e1, subT]
      obtain ⟨u, h1, h2⟩ := e3
      rw [Nat.sub_zero] at h1
      rw [h1]; exact h2
theorem plTs_sub : ∀ {i : Nat} {ts : List T} {p : List Nat × T}, p ∈ plTs i ts → ∃ k r, p.1 = k :: r ∧ i ≤ k ∧ ∃ u, ts[k - i]? = some u ∧ subT u r = some p.2
  | i, [], p, h => nomatch h
  | i, t :: ts, p, h => by
    rw [plTs] at h
    rcases List.mem_append.mp h with h | h
    · obtain ⟨q, hq, rfl⟩ := List.mem_map.mp h
      exact ⟨i, q.1, rfl, Nat.le_refl _, t, by simp, plT_sub hq⟩
    · obtain ⟨k, r, e1, e2, u, e3, e4⟩ := plTs_sub h
      refine ⟨k, r, e1, by omega, u, ?_, e4⟩
      rw [show k - i = (k - (i + 1)) + 1 by omega, List.getElem?_cons_succ]
      exact e3
end
/-! parts of patterns -/
mutual
def wiP : Pt → List Pt
  | .any => [.any]
  | .leaf => [.leaf]
  | .node c ks => .node c ks :: wiPs ks
def wiPs : List Pt → List Pt
  | [] => []
  | p :: ps => wiP p ++ wiPs ps
end
mutual
theorem wiP_len : ∀ p : Pt, (wiP p).length = szP p
  | .any => rfl
  | .leaf => rfl
  | .node c ks => by rw [wiP, szP, List.length_cons, wiPs_len ks]; omega
theorem wiPs_len : ∀ ps : List Pt, (wiPs ps).length = szPs ps
  | [] => rfl
  | p :: ps => by rw [wiPs, szPs, List.length_append, wiP_len p, wiPs_len ps]
end
mutual
theorem wiP_ok : ∀ {p q : Pt}, okP p → q ∈ wiP p → okP q ∧ htP q ≤ htP p
  | .any, q, _, h => by rw [wiP] at h; rw [List.mem_singleton.mp h]; exact ⟨trivial, Nat.le_refl _⟩
  | .leaf, q, _, h => by rw [wiP] at h; rw [List.mem_singleton.mp h]; exact ⟨trivial, Nat.le_refl _⟩
  | .node c ks, q, o, h => by
    rw [wiP] at h
    rcases List.mem_cons.mp h with rfl | h
    · exact ⟨o, Nat.le_refl _⟩
    · rw [okP] at o
      have := wiPs_ok o.2.2 h
      rw [htP]; exact ⟨this.1, by omega⟩
theorem wiPs_ok : ∀ {ps : List Pt} {q : Pt}, okPs ps → q ∈ wiPs ps → okP q ∧ htP q ≤ htPs ps
  | [], q, _, h => nomatch h
  | p :: ps, q, o, h => by
    rw [wiPs] at h
    rw [okPs] at o
    rw [htPs]
    rcases List.mem_append.mp h with h | h
    · have := wiP_ok o.1 h; exact ⟨this.1, by omega⟩
    · have := wiPs_ok o.2 h; exact ⟨this.1, by omega⟩
end
theorem wiPs_flat : ∀ ps : List Pt, wiPs ps = ps.flatMap wiP
  | [] => rfl
  | p :: ps => by rw [wiPs, List.flatMap_cons, wiPs_flat ps]
theorem wiP_self (p : Pt) : p ∈ wiP p := by cases p <;> rw [wiP] <;> simp
mutual
theorem wiP_kid : ∀ {p : Pt} {c : Nat} {ks : List Pt} {k : Pt}, .node c ks ∈ wiP p → k ∈ ks → k ∈ wiP p
  | .any, c, ks, k, h, _ => by rw [wiP] at h; simp at h
  | .leaf, c, ks, k, h, _ => by rw [wiP] at h; simp at h
  | .node d js, c, ks, k, h, hk => by
    rw [wiP] at h ⊢
    rcases List.mem_cons.mp h with h | h
    · cases h
      refine List.mem_cons_of_mem _ ?_
      rw [wiPs_flat]
      exact List.mem_flatMap.mpr ⟨k, hk, wiP_self k⟩
    · exact List.mem_cons_of_mem _ (wiPs_kid h hk)
theorem wiPs_kid : ∀ {ps : List Pt} {c : Nat} {ks : List Pt} {k : Pt}, .node c ks ∈ wiPs ps → k ∈ ks → k ∈ wiPs ps
  | [], c, ks, k, h, _ => nomatch h
  | p :: ps, c, ks, k, h, hk => by
    rw [wiPs] at h ⊢
    rcases List.mem_append.mp h with h | h
    · exact List.mem_append.mpr (.inl (wiP_kid h hk))
    · exact List.mem_append.mpr (.inr (wiPs_kid h hk))
end
mutual
theorem dP_inj : ∀ {p q : Pt}, dP p = dP q → p = q
  | .any, q, h => by cases q <;> simp [dP] at h <;> rfl
  | .leaf, q, h => by cases q <;> simp [dP] at h <;> rfl
  | .node c ks, q, h => by
    cases q with
    | any => simp [dP] at h
    | leaf => simp [dP] at h
    | node d js =>
      simp [dP] at h
      rw [h.1, dPs_inj h.2]
theorem dPs_inj : ∀ {p q : List Pt}, dPs p = dPs q → p = q
  | [], [], _ => rfl
  | [], _ :: _, h => by simp [dPs] at h
  | _ :: _, [], h => by simp [dPs] at h
  | p :: ps, q :: qs, h => by
    rw [dPs, dPs] at h
    injection h with h1 h2
    rw [dP_inj h1, dPs_inj h2]
end
theorem szPs_app : ∀ a b : List Pt, szPs (a ++ b) = szPs a + szPs b
  | [], b => by simp [szPs]
  | x :: xs, b => by rw [List.cons_append, szPs, szPs, szPs_app xs b]; omega
instance : DecidableEq Pt := fun a b => if h : dP a = dP b then isTrue (dP_inj h) else isFalse fun e => h (by rw [e])
/-- each once, as they are met -/
def ddP (acc : List Pt) : List Pt → List Pt
  | [] => acc
  | p :: r => if dP p ∈ acc.map dP then ddP acc r else ddP (acc ++ [p]) r
theorem memdP {p : Pt} {l : List Pt} : dP p ∈ l.map dP ↔ p ∈ l := by
  constructor
  · intro h
    obtain ⟨q, hq, e⟩ := List.mem_map.mp h
    rw [← dP_inj e]; exact hq
  · exact fun h => List.mem_map.mpr ⟨p, h, rfl⟩
theorem ddP_mem : ∀ {l acc : List Pt} {p : Pt}, p ∈ ddP acc l ↔ p ∈ acc ∨ p ∈ l
  | [], acc, p => by simp [ddP]
  | q :: l, acc, p => by
    rw [ddP]
    split
    · rename_i h
      rw [memdP] at h
      rw [ddP_mem]
      constructor
      · rintro (h | h)
        · exact .inl h
        · exact .inr (List.mem_cons_of_mem _ h)
      · rintro (h1 | h1)
        · exact .inl h1
        · rcases List.mem_cons.mp h1 with rfl | h1
          · exact .inl h
          · exact .inr h1
    · rw [ddP_mem]
      rw [List.mem_append, List.mem_singleton, List.mem_cons]
      exact or_assoc
theorem ddP_app : ∀ {l m acc : List Pt}, ddP acc (l ++ m) = ddP (ddP acc l) m
  | [], m, acc => rfl
  | q :: l, m, acc => by
    rw [List.cons_append, ddP, ddP]
    split <;> exact ddP_app
theorem ddP_len : ∀ {l acc : List Pt}, (ddP acc l).length ≤ acc.length + l.length
  | [], acc => by simp [ddP]
  | q :: l, acc => by
    rw [ddP]
    split
    · have := ddP_len (l := l) (acc := acc); rw [List.length_cons]; omega
    · have := ddP_len (l := l) (acc := acc ++ [q]); simp only [List.length_cons, List.length_append, List.length_nil] at this ⊢; omega
/-- the parts of a book -/
def partsB (rs : List Ru) : List Pt := ddP [] (rs.flatMap fun r => wiP r.p)
theorem flatMap_le {α β : Type} (f : α → List β) (m : Nat) : ∀ (l : List α), (∀ a ∈ l, (f a).length ≤ m) → (l.flatMap f).length ≤ l.length * m
  | [], _ => by simp
  | a :: l, h => by
    rw [List.flatMap_cons, List.length_append, List.length_cons, Nat.succ_mul]
    have h1 := h a List.mem_cons_self
    have h2 := flatMap_le f m l fun b hb => h b (List.mem_cons_of_mem _ hb)
    omega
theorem partsB_len {rs : List Ru} (h : okBk rs) : (partsB rs).length ≤ 112 := by
  have h1 := ddP_len (l := rs.flatMap fun r => wiP r.p) (acc := [])
  have h2 := flatMap_le (fun r : Ru => wiP r.p) 7 rs fun r hr => by rw [wiP_len]; exact (h.ok r hr).pz
  have := h.few
  unfold partsB
  simp only [List.length_nil] at h1
  omega
theorem partsB_ok {rs : List Ru} (h : okBk rs) {p : Pt} (hp : p ∈ partsB rs) : okP p ∧ htP p ≤ 3 := by
  unfold partsB at hp
  rw [ddP_mem] at hp
  rcases hp with hp | hp
  · cases hp
  · obtain ⟨r, hr, hq⟩ := List.mem_flatMap.mp hp
    have o := h.ok r hr
    have := wiP_ok o.p hq
    exact ⟨this.1, by have := o.ph; omega⟩
theorem partsB_kid {rs : List Ru} {c : Nat} {ks : List Pt} {k : Pt} (hp : .node c ks ∈ partsB rs) (hk : k ∈ ks) : k ∈ partsB rs := by
  unfold partsB at hp ⊢
  rw [ddP_mem] at hp ⊢
  rcases hp with hp | hp
  · cases hp
  · obtain ⟨r, hr, hq⟩ := List.mem_flatMap.mp hp
    exact .inr (List.mem_flatMap.mpr ⟨r, hr, wiP_kid hq hk⟩)
theorem partsB_rule {rs : List Ru} {r : Ru} (hr : r ∈ rs) : r.p ∈ partsB rs := by
  unfold partsB
  rw [ddP_mem]
  exact .inr (List.mem_flatMap.mpr ⟨r, hr, wiP_self r.p⟩)
/-- the numbers of the parts that fit -/
def setT (Ps : List Pt) (t : T) : List Nat := (List.range Ps.length).filter fun i => fitsP (Ps.getD i .any) t
end Z
/-! dicts -/
namespace Z
theorem dGet_nil {k : D} : dGet [] k = none := rfl
theorem dGet_cons {a b k : D} {r : List (D × D)} : dGet ((a, b) :: r) k = if a = k then some b else dGet r k := by
  unfold dGet
  rw [List.find?_cons]
  by_cases h : a = k
  · simp [h]
  · simp [h]
theorem dGet_app {k : D} {a b : List (D × D)} : dGet (a ++ b) k = (dGet a k).or (dGet b k) := by
  induction a with
  | nil => rw [List.nil_append, dGet_nil]; rfl
  | cons x a ih =>
    obtain ⟨u, v⟩ := x
    rw [List.cons_append, dGet_cons, dGet_cons]
    split
    · rfl
    · exact ih
theorem dGet_map {k v k' : D} : ∀ {kvs : List (D × D)}, dGet (kvs.map fun p => if p.1 = k then (p.1, v) else p) k' = if k' = k ∧ (dGet kvs k).isSome = true then some v else dGet kvs k'
  | [] => by rw [List.map_nil, dGet_nil, dGet_nil]; simp
  | (a, b) :: r => by
    rw [List.map_cons]
    have ih := dGet_map (k := k) (v := v) (k' := k') (kvs := r)
    by_cases h : a = k
    · subst h
      rw [if_pos rfl, dGet_cons, dGet_cons, dGet_cons, if_pos rfl]
      by_cases h2 : a = k'
      · subst h2; simp
      · have h3 : ¬ k' = a := fun z => h2 z.symm
        rw [if_neg h2, if_neg h2, ih]
        simp [h3]
    · rw [if_neg h, dGet_cons, dGet_cons, dGet_cons, if_neg h, ih]
      by_cases h2 : a = k'
      · subst h2; simp [h]
      · simp [h2]
theorem dGet_put {kvs : List (D × D)} {k v k' : D} : dGet (dPut kvs k v) k' = if k' = k then some v else dGet kvs k' := by
  unfold dPut
  by_cases h : (dGet kvs k).isSome = true
  · rw [if_pos h, dGet_map]
    by_cases h2 : k' = k <;> simp [h2, h]
  · rw [if_neg h, dGet_app]
    by_cases h2 : k' = k
    · subst h2
      have : dGet kvs k' = none := by simpa using h
      rw [this, dGet_cons]; simp
    · rw [dGet_cons, if_neg (fun z => h2 z.symm), if_neg h2, dGet_nil]; simp
theorem dPut_len {kvs : List (D × D)} {k v : D} : (dPut kvs k v).length ≤ kvs.length + 1 := by
  unfold dPut
  split <;> simp
theorem dPut_keys {kvs : List (D × D)} {k v x : D} (h : x ∈ (dPut kvs k v).map (·.2)) : x = v ∨ x ∈ kvs.map (·.2) := by
  unfold dPut at h
  split at h
  · rw [List.map_map] at h
    obtain ⟨p, hp, rfl⟩ := List.mem_map.mp h
    by_cases hk : p.1 = k
    · left; simp [hk]
    · right; simp [hk]; exact ⟨p.1, hp⟩
  · rw [List.map_append] at h
    rcases List.mem_append.mp h with h | h
    · exact .inr h
    · exact .inl (by simpa using h)
theorem dPa_inj {p q : List Nat} (h : dPa p = dPa q) : p = q := by
  unfold dPa at h
  injection h with h
  induction p generalizing q with
  | nil => cases q with
    | nil => rfl
    | cons => simp at h
  | cons a p ih => cases q with
    | nil => simp at h
    | cons b q =>
      rw [List.map_cons, List.map_cons] at h
      injection h with h1 h2
      injection h1 with h1
      rw [ih h2, Int.ofNat.inj h1]
theorem nkPa (p : List Nat) : nkDs (p.map fun (i : Nat) => D.int i) = some (p.map fun (i : Nat) => PySem.NestedKey.num i) := by
  induction p with
  | nil => rfl
  | cons a p ih => rw [List.map_cons, nkDs, ih]; rfl
theorem depPa (p : List Nat) : PySem.NestedKey.depthAll (p.map fun (i : Nat) => PySem.NestedKey.num i) ≤ 1 := by
  induction p with
  | nil => simp [PySem.NestedKey.depthAll]
  | cons a p ih => rw [List.map_cons, PySem.NestedKey.depthAll]; simp [PySem.NestedKey.depth]; omega
@[simp] theorem key_Pa (p : List Nat) : keyT (.tup (p.map fun (i : Nat) => D.int i)) = true := by
  unfold keyT
  simp only [nkD, nkPa]
  rw [PySem.NestedKey.depth]
  have := depPa p
  exact decide_eq_true (by omega)
end Z
/-! lists of plain data compared -/
namespace Z
theorem toP_lst {st : Sto} {n : Nat} {xs : List D} (h : st[n]? = some (.lst xs)) (hp : plDs xs = true) : toP st 2 (.loc n) = some (.list (pyDs xs)) := by
  unfold toP
  rw [toPW, h]
  simp only
  rw [toPWs_pl hp]
theorem eqL {st : Sto} {n m : Nat} {xs ys : List D} (h : st[n]? = some (.lst xs)) (h' : st[m]? = some (.lst ys)) (hp : plDs xs = true) (hq : plDs ys = true) (hd : depDs xs ≤ 59) : eqD st (.loc n) (.loc m) = some (decide (xs = ys)) := by
  cases ys with
  | nil =>
    unfold eqD
    simp only [h, h']
    cases xs <;> simp
  | cons y ys =>
    have e : eqD st (.loc n) (.loc m) = eqG st (.loc n) (.loc m) := by
      unfold eqD
      simp only [h, h']
    rw [e]
    unfold eqG
    rw [toP_lst h hp, toP_lst h' hq]
    simp only
    have d1 : (PySem.PyData.list (pyDs xs)).depth ≤ 60 := by
      have := deps_pl xs
      rw [PySem.PyData.depth]; omega
    rw [if_pos ⟨lays_pl hp, lays_pl hq, by have h2 := Nat.min_le_left (PySem.PyData.list (pyDs xs)).depth (PySem.PyData.list (pyDs (y :: ys))).depth; omega⟩]
    rw [PySem.PyData.eqv, eqvs_pl hp hq]
end Z
namespace Z
/-! what a book tells of a tree by the first rules -/
def ru0 : Ru := ⟨0, .no, .any, .node 0 []⟩
def labT' : T → Nat
  | .node c _ => c
def labA (t0 : T) (p : List Nat) : Option Nat := if p = [] then none else (subT t0 p.dropLast).map labT'
def spotB (t0 : T) (p : List Nat) : Sp → Bool
  | .no => true
  | .top => p.isEmpty
  | .under c => decide (labA t0 p = some c)
  | .kid i => decide (p.getLast? = some i)
def ruleB (t0 u : T) (p : List Nat) (s : Nat) (r : Ru) : Bool := decide (r.s = s) && spotB t0 p r.sp && fitsP r.p u
def rulesAt (rs : List Ru) (t0 u : T) (p : List Nat) (s : Nat) : List Nat := (List.range rs.length).filter fun i => ruleB t0 u p s (rs.getD i ru0)
def ruleAt (rs : List Ru) (t0 : T) (p : List Nat) (s : Nat) : Option Nat := match subT t0 p with
  | some u => (rulesAt rs t0 u p s).head?
  | none => none
mutual
def dosB : Bd → List (Nat × List Nat)
  | .go s p => [(s, p)]
  | .node _ ks => dosBs ks
def dosBs : List Bd → List (Nat × List Nat)
  | [] => []
  | b :: bs => dosB b ++ dosBs bs
end
mutual
def layB (g : Nat → List Nat → T) : Bd → T
  | .go s p => g s p
  | .node c ks => .node c (layBs g ks)
def layBs (g : Nat → List Nat → T) : List Bd → List T
  | [] => []
  | b :: bs => layB g b :: layBs g bs
end
inductive Res where
  | big | non | tr (u : T)
def Res.t : Res → T
  | .tr u => u
  | _ => .node 0 []
def Res.isBig : Res → Bool
  | .big => true
  | _ => false
def Res.isNon : Res → Bool
  | .non => true
  | _ => false
/-- what comes by a build; f: what comes at its dos -/
def comeB (f : Nat → List Nat → Res) (b : Bd) : Res :=
  if (dosB b).any (fun d => (f d.1 d.2).isBig) = true then .big
  else if (dosB b).any (fun d => (f d.1 d.2).isNon) = true then .non
  else if 400 < sz (layB (fun s q => (f s q).t) b) then .big else .tr (layB (fun s q => (f s q).t) b)
def come (rs : List Ru) (t0 : T) (p : List Nat) (s : Nat) : Res := match ruleAt rs t0 p s with
  | none => .non
  | some r => comeB (fun s' q => if h : 1 ≤ q.length ∧ p.length < 20 then come rs t0 (p ++ q) s' else .non) (rs.getD r ru0).b
termination_by 20 - p.length
decreasing_by simp only [List.length_append]; omega
mutual
theorem layB_congr {g g' : Nat → List Nat → T} : ∀ b : Bd, (∀ d ∈ dosB b, g d.1 d.2 = g' d.1 d.2) → layB g b = layB g' b
  | .go s p, h => by rw [layB, layB]; exact h (s, p) (by rw [dosB]; simp)
  | .node c ks, h => by rw [layB, layB, layBs_congr ks fun d hd => h d (by rw [dosB]; exact hd)]
theorem layBs_congr {g g' : Nat → List Nat → T} : ∀ bs : List Bd, (∀ d ∈ dosBs bs, g d.1 d.2 = g' d.1 d.2) → layBs g bs = layBs g' bs
  | [], h => by rw [layBs, layBs]
  | b :: bs, h => by
    rw [layBs, layBs, layB_congr b fun d hd => h d (by rw [dosBs]; exact List.mem_append_left _ hd), layBs_congr bs fun d hd => h d (by rw [dosBs]; exact List.mem_append_right _ hd)]
end
theorem any_congr' {α : Type} {f g : α → Bool} {l : List α} (h : ∀ x ∈ l, f x = g x) : l.any f = l.any g := by
  induction l with
  | nil => rfl
  | cons x l ih => rw [List.any_cons, List.any_cons, h x List.mem_cons_self, ih fun y hy => h y (List.mem_cons_of_mem _ hy)]
theorem comeB_congr {f f' : Nat → List Nat → Res} {b : Bd} (h : ∀ d ∈ dosB b, f d.1 d.2 = f' d.1 d.2) : comeB f b = comeB f' b := by
  have e1 : (dosB b).any (fun d => (f d.1 d.2).isBig) = (dosB b).any (fun d => (f' d.1 d.2).isBig) := any_congr' fun d hd => by rw [h d hd]
  have e2 : (dosB b).any (fun d => (f d.1 d.2).isNon) = (dosB b).any (fun d => (f' d.1 d.2).isNon) := any_congr' fun d hd => by rw [h d hd]
  have e3 : layB (fun s q => (f s q).t) b = layB (fun s q => (f' s q).t) b := layB_congr b fun d hd => by rw [h d hd]
  unfold comeB
  rw [e1, e2, e3]
theorem subT_app : ∀ (t : T) (p q : List Nat), subT t (p ++ q) = (subT t p).bind fun u => subT u q
  | t, [], q => by rw [List.nil_append, subT]; rfl
  | .node c ks, i :: p, q => by
    rw [List.cons_append, subT, subT]
    cases ks[i]? with
    | none => rfl
    | some u => exact subT_app u p q
theorem subT_ht : ∀ {t : T} {p : List Nat} {u : T}, subT t p = some u → p.length + ht u ≤ ht t
  | t, [], u, h => by rw [subT] at h; cases h; simp
  | .node c ks, i :: p, u, h => by
    rw [subT] at h
    cases hk : ks[i]? with
    | none => rw [hk] at h; cases h
    | some v =>
      rw [hk] at h
      have h1 := subT_ht (t := v) (p := p) h
      have h2 := hts_le (List.mem_of_getElem? hk)
      rw [ht, List.length_cons]; omega
theorem subT_ok : ∀ {t : T} {p : List Nat} {u : T}, subT t p = some u → okT t → okT u ∧ sz u ≤ sz t
  | t, [], u, h, o => by rw [subT] at h; cases h; exact ⟨o, Nat.le_refl _⟩
  | .node c ks, i :: p, u, h, o => by
    rw [subT] at h
    cases hk : ks[i]? with
    | none => rw [hk] at h; cases h
    | some v =>
      rw [hk] at h
      rw [okT] at o
      have h1 := subT_ok (t := v) (p := p) h (okTs_mem o.2.2 (List.mem_of_getElem? hk))
      have h2 := szs_mem (List.mem_of_getElem? hk)
      rw [sz]; exact ⟨h1.1, by omega⟩
theorem fitsPs_at : ∀ {ps : List Pt} {ks : List T} {i : Nat} {p : Pt}, fitsPs ps ks = true → ps[i]? = some p → ∃ k, ks[i]? = some k ∧ fitsP p k = true
  | [], [], i, p, h, e => by simp at e
  | [], _ :: _, i, p, h, e => by simp at e
  | _ :: _, [], i, p, h, e => by simp [fitsPs] at h
  | p0 :: ps, k0 :: ks, i, p, h, e => by
    rw [fitsPs, Bool.and_eq_true] at h
    cases i with
    | zero => simp at e; subst e; exact ⟨k0, rfl, h.1⟩
    | succ i => rw [List.getElem?_cons_succ] at e; rw [List.getElem?_cons_succ]; exact fitsPs_at h.2 e
theorem fits_sub : ∀ {q : List Nat} {P P' : Pt} {u : T}, fitsP P u = true → subP P q = some P' → ∃ u', subT u q = some u' ∧ fitsP P' u' = true
  | [], P, P', u, h, e => by rw [subP] at e; cases e; exact ⟨u, by rw [subT], h⟩
  | i :: q, .any, P', u, h, e => by simp [subP] at e
  | i :: q, .leaf, P', u, h, e => by simp [subP] at e
  | i :: q, .node c ps, P', .node d ks, h, e => by
    rw [fitsP, Bool.and_eq_true] at h
    rw [subP] at e
    cases hp : ps[i]? with
    | none => rw [hp] at e; cases e
    | some P1 =>
      rw [hp] at e
      obtain ⟨k, hk, hf⟩ := fitsPs_at h.2 hp
      rw [subT, hk]
      exact fits_sub hf e
mutual
theorem dos_ok {P : Pt} : ∀ {b : Bd}, okB P b → ∀ d ∈ dosB b, d.1 ≤ 5 ∧ 1 ≤ d.2.length ∧ d.2.length ≤ 2 ∧ ∃ q, subP P d.2 = some q
  | .go s p, h, d, hd => by rw [dosB, List.mem_singleton] at hd; subst hd; rw [okB] at h; exact h
  | .node c ks, h, d, hd => by rw [dosB] at hd; rw [okB] at h; exact doss_ok h.2.2 d hd
theorem doss_ok {P : Pt} : ∀ {bs : List Bd}, okBs P bs → ∀ d ∈ dosBs bs, d.1 ≤ 5 ∧ 1 ≤ d.2.length ∧ d.2.length ≤ 2 ∧ ∃ q, subP P d.2 = some q
  | [], h, d, hd => by rw [dosBs] at hd; cases hd
  | b :: bs, h, d, hd => by
    rw [dosBs] at hd
    rw [okBs] at h
    rcases List.mem_append.mp hd with hd | hd
    · exact dos_ok h.1 d hd
    · exact doss_ok h.2 d hd
end
theorem ruleAt_of {rs : List Ru} {t0 : T} {p : List Nat} {s r : Nat} (h : ruleAt rs t0 p s = some r) : ∃ u, subT t0 p = some u ∧ r < rs.length ∧ ruleB t0 u p s (rs.getD r ru0) = true := by
  unfold ruleAt at h
  split at h
  · rename_i u hu
    have h2 := List.mem_of_mem_head? (Option.mem_def.mpr h)
    unfold rulesAt at h2
    rw [List.mem_filter, List.mem_range] at h2
    exact ⟨u, hu, h2.1, h2.2⟩
  · cases h
/-- the dos of the first rule -/
theorem rule_dos {rs : List Ru} (hb : okBk rs) {t0 : T} {p : List Nat} {s r : Nat} (h : ruleAt rs t0 p s = some r) : ∃ ru u, rs[r]? = some ru ∧ rs.getD r ru0 = ru ∧ okR ru ∧ subT t0 p = some u ∧ fitsP ru.p u = true ∧ ∀ d ∈ dosB ru.b, d.1 ≤ 5 ∧ 1 ≤ d.2.length ∧ d.2.length ≤ 2 ∧ ∃ u', subT t0 (p ++ d.2) = some u' ∧ d.2.length + ht u' ≤ ht u := by
  obtain ⟨u, hu, hr, hf⟩ := ruleAt_of h
  have e1 : rs[r]? = some rs[r] := List.getElem?_eq_getElem hr
  have e2 : rs.getD r ru0 = rs[r] := by rw [List.getD_eq_getElem?_getD, e1]; rfl
  have ok := hb.ok rs[r] (List.getElem_mem hr)
  rw [e2] at hf
  unfold ruleB at hf
  rw [Bool.and_eq_true] at hf
  refine ⟨rs[r], u, e1, e2, ok, hu, hf.2, fun d hd => ?_⟩
  obtain ⟨a1, a2, a3, q, a4⟩ := dos_ok ok.b d hd
  obtain ⟨u', b1, _⟩ := fits_sub hf.2 a4
  exact ⟨a1, a2, a3, u', by rw [subT_app, hu]; exact b1, subT_ht b1⟩
theorem come_none {rs : List Ru} {t0 : T} {p : List Nat} {s : Nat} (h : ruleAt rs t0 p s = none) : come rs t0 p s = .non := by rw [come, h]
theorem come_some {rs : List Ru} (hb : okBk rs) {t0 : T} (hh : ht t0 ≤ 12) {p : List Nat} {s r : Nat} (h : ruleAt rs t0 p s = some r) : come rs t0 p s = comeB (fun s' q => come rs t0 (p ++ q) s') (rs.getD r ru0).b := by
  rw [come, h]
  obtain ⟨ru, u, e1, e2, ok, hu, hf, hd⟩ := rule_dos hb h
  refine comeB_congr fun d hd' => ?_
  rw [e2] at hd'
  have hl := subT_ht hu
  rw [dif_pos ⟨(hd d hd').2.1, by omega⟩]
mutual
theorem lay_ok {P : Pt} {g : Nat → List Nat → T} : ∀ {b : Bd}, okB P b → (∀ d ∈ dosB b, okT (g d.1 d.2)) → okT (layB g b)
  | .go s p, h, hg => by rw [layB]; exact hg (s, p) (by rw [dosB]; simp)
  | .node c ks, h, hg => by
    rw [okB] at h
    rw [layB, okT]
    exact ⟨h.1, by rw [lays_len]; exact h.2.1, lays_ok h.2.2 fun d hd => hg d (by rw [dosB]; exact hd)⟩
theorem lays_ok {P : Pt} {g : Nat → List Nat → T} : ∀ {bs : List Bd}, okBs P bs → (∀ d ∈ dosBs bs, okT (g d.1 d.2)) → okTs (layBs g bs)
  | [], h, hg => by rw [layBs, okTs]; trivial
  | b :: bs, h, hg => by
    rw [okBs] at h
    rw [layBs, okTs]
    exact ⟨lay_ok h.1 fun d hd => hg d (by rw [dosBs]; exact List.mem_append_left _ hd), lays_ok h.2 fun d hd => hg d (by rw [dosBs]; exact List.mem_append_right _ hd)⟩
theorem lays_len {g : Nat → List Nat → T} : ∀ {bs : List Bd}, (layBs g bs).length = bs.length
  | [] => by rw [layBs]; rfl
  | b :: bs => by rw [layBs, List.length_cons, List.length_cons, lays_len]
end
theorem lays_map {g : Nat → List Nat → T} : ∀ bs : List Bd, layBs g bs = bs.map (layB g)
  | [] => by rw [layBs]; rfl
  | b :: bs => by rw [layBs, lays_map bs]; rfl
mutual
theorem lay_ht {g : Nat → List Nat → T} {m : Nat} : ∀ {b : Bd}, 1 ≤ m → (∀ d ∈ dosB b, ht (g d.1 d.2) ≤ m) → ht (layB g b) + 1 ≤ htB b + m
  | .go s p, hm, hg => by have := hg (s, p) (by rw [dosB]; simp); rw [layB, htB]; simp only at this; omega
  | .node c ks, hm, hg => by
    have := lays_ht (bs := ks) hm fun d hd => hg d (by rw [dosB]; exact hd)
    rw [layB, htB, ht]; omega
theorem lays_ht {g : Nat → List Nat → T} {m : Nat} : ∀ {bs : List Bd}, 1 ≤ m → (∀ d ∈ dosBs bs, ht (g d.1 d.2) ≤ m) → hts (layBs g bs) + 1 ≤ htBs bs + m
  | [], hm, hg => by rw [layBs, hts]; omega
  | b :: bs, hm, hg => by
    have h1 := lay_ht (b := b) hm fun d hd => hg d (by rw [dosBs]; exact List.mem_append_left _ hd)
    have h2 := lays_ht (bs := bs) hm fun d hd => hg d (by rw [dosBs]; exact List.mem_append_right _ hd)
    rw [layBs, hts, htBs]; omega
end
theorem comeB_tr {f : Nat → List Nat → Res} {b : Bd} {v : T} (h : comeB f b = .tr v) : (∀ d ∈ dosB b, ∃ u, f d.1 d.2 = .tr u) ∧ v = layB (fun s q => (f s q).t) b ∧ sz v ≤ 400 := by
  unfold comeB at h
  split at h
  · cases h
  · rename_i h1
    split at h
    · cases h
    · rename_i h2
      split at h
      · cases h
      · rename_i h3
        cases h
        refine ⟨fun d hd => ?_, rfl, by omega⟩
        cases e : f d.1 d.2 with
        | big => exact absurd (List.any_eq_true.mpr ⟨d, hd, by rw [e]; rfl⟩) h1
        | non => exact absurd (List.any_eq_true.mpr ⟨d, hd, by rw [e]; rfl⟩) h2
        | tr u => exact ⟨u, rfl⟩
theorem come_tr {rs : List Ru} (hb : okBk rs) {t0 : T} (hh : ht t0 ≤ 12) : ∀ (n : Nat) {p : List Nat} {s : Nat} {u v : T}, ht u ≤ n → subT t0 p = some u → come rs t0 p s = .tr v → okT v ∧ sz v ≤ 400 ∧ ht v ≤ 3 * ht u + 1
  | 0, p, s, u, v, hn, hu, h => by have := ht_pos u; omega
  | n + 1, p, s, u, v, hn, hu, h => by
    cases hr : ruleAt rs t0 p s with
    | none => rw [come_none hr] at h; cases h
    | some r =>
      rw [come_some hb hh hr] at h
      obtain ⟨ru, u0, e1, e2, ok, hu0, hf, hd⟩ := rule_dos hb hr
      rw [hu] at hu0; cases hu0
      rw [e2] at h
      obtain ⟨h1, h2, h3⟩ := comeB_tr h
      have kid : ∀ d ∈ dosB ru.b, okT ((come rs t0 (p ++ d.2) d.1).t) ∧ ht ((come rs t0 (p ++ d.2) d.1).t) ≤ 3 * ht u - 2 := fun d hd' => by
        obtain ⟨v', hv'⟩ := h1 d hd'
        obtain ⟨_, a2, a3, u', hu', hl⟩ := hd d hd'
        obtain ⟨c1, c2, c3⟩ := come_tr hb hh n (by omega) hu' hv'
        rw [hv']
        exact ⟨c1, by show ht v' ≤ _; omega⟩
      have hp := ht_pos u
      have bh := ok.bh
      refine ⟨by rw [h2]; exact lay_ok ok.b fun d hd' => (kid d hd').1, h3, ?_⟩
      have := lay_ht (g := fun s q => ((fun s' q => come rs t0 (p ++ q) s') s q).t) (b := ru.b) (m := 3 * ht u - 2) (by omega) fun d hd' => (kid d hd').2
      rw [← h2] at this
      omega
/-! keys and what is known -/
def kP (p : List Nat) (s : Nat) : D := .tup [dPa p, .int s]
theorem kP_inj {p q : List Nat} {s s' : Nat} (h : kP p s = kP q s') : p = q ∧ s = s' := by
  unfold kP at h
  injection h with h
  injection h with h1 h2
  injection h2 with h3 h4
  injection h3 with h5
  exact ⟨dPa_inj h1, by omega⟩
theorem kP_key (p : List Nat) (s : Nat) : keyT (kP p s) = true := by
  unfold kP keyT
  have e : nkDs [dPa p, D.int (s : Int)] = some [.tup (p.map fun (i : Nat) => PySem.NestedKey.num i), .num s] := by
    simp only [nkDs, dPa, nkD, nkPa]
  simp only [nkD, e]
  have := depPa p
  refine decide_eq_true ?_
  rw [PySem.NestedKey.depth]
  simp only [PySem.NestedKey.depthAll, PySem.NestedKey.depth]
  omega
theorem kP_pl (p : List Nat) (s : Nat) (h : p.length ≤ 1000) : plD (kP p s) = true := by
  have e : plDs (p.map fun (i : Nat) => D.int i) = true := plDs_map fun _ _ => rfl
  simp [kP, dPa, plD, plDs, e, LIM]
def dRes : Res → D
  | .tr u => dT u
  | _ => .non
end Z
namespace Z
/-! what comes of which place -/
/-- told place, the tree's place, the rule -/
structure Og where
  h : List Nat
  p : List Nat
  r : Nat
deriving DecidableEq
def Og.under (q : List Nat) (o : Og) : Og := ⟨q ++ o.h, o.p, o.r⟩
mutual
def orgB (g : Nat → List Nat → List Og) (p : List Nat) (r : Nat) : Bd → List Og
  | .go s q => g s q
  | .node _ ks => ⟨[], p, r⟩ :: orgBs g p r 0 ks
def orgBs (g : Nat → List Nat → List Og) (p : List Nat) (r : Nat) : Nat → List Bd → List Og
  | _, [] => []
  | i, b :: bs => (orgB g p r b).map (Og.under [i]) ++ orgBs g p r (i + 1) bs
end
def org (rs : List Ru) (t0 : T) (p : List Nat) (s : Nat) : List Og := match ruleAt rs t0 p s with
  | none => []
  | some r => orgB (fun s' q => if h : 1 ≤ q.length ∧ p.length < 20 then org rs t0 (p ++ q) s' else []) p r (rs.getD r ru0).b
termination_by 20 - p.length
decreasing_by simp only [List.length_append]; omega
mutual
theorem orgB_congr {g g' : Nat → List Nat → List Og} {p : List Nat} {r : Nat} : ∀ b : Bd, (∀ d ∈ dosB b, g d.1 d.2 = g' d.1 d.2) → orgB g p r b = orgB g' p r b
  | .go s q, h => by rw [orgB, orgB]; exact h (s, q) (by rw [dosB]; simp)
  | .node c ks, h => by rw [orgB, orgB, orgBs_congr 0 ks fun d hd => h d (by rw [dosB]; exact hd)]
theorem orgBs_congr {g g' : Nat → List Nat → List Og} {p : List Nat} {r : Nat} : ∀ (i : Nat) (bs : List Bd), (∀ d ∈ dosBs bs, g d.1 d.2 = g' d.1 d.2) → orgBs g p r i bs = orgBs g' p r i bs
  | i, [], h => by rw [orgBs, orgBs]
  | i, b :: bs, h => by
    rw [orgBs, orgBs, orgB_congr b fun d hd => h d (by rw [dosBs]; exact List.mem_append_left _ hd), orgBs_congr (i + 1) bs fun d hd => h d (by rw [dosBs]; exact List.mem_append_right _ hd)]
end
theorem org_some {rs : List Ru} (hb : okBk rs) {t0 : T} (hh : ht t0 ≤ 12) {p : List Nat} {s r : Nat} (h : ruleAt rs t0 p s = some r) : org rs t0 p s = orgB (fun s' q => org rs t0 (p ++ q) s') p r (rs.getD r ru0).b := by
  rw [org, h]
  obtain ⟨ru, u, e1, e2, ok, hu, hf, hd⟩ := rule_dos hb h
  refine orgB_congr _ fun d hd' => ?_
  rw [e2] at hd'
  have hl := subT_ht hu
  rw [dif_pos ⟨(hd d hd').2.1, by omega⟩]
/-! its places are those of what comes -/
mutual
theorem orgB_pl {g : Nat → List Nat → List Og} {f : Nat → List Nat → T} {p : List Nat} {r : Nat} : ∀ b : Bd, (∀ d ∈ dosB b, (g d.1 d.2).map Og.h = (plT (f d.1 d.2)).map (·.1)) → (orgB g p r b).map Og.h = (plT (layB f b)).map (·.1)
  | .go s q, h => by rw [orgB, layB]; exact h (s, q) (by rw [dosB]; simp)
  | .node c ks, h => by
    rw [orgB, layB, plT, List.map_cons, List.map_cons, orgBs_pl 0 ks fun d hd => h d (by rw [dosB]; exact hd)]
theorem orgBs_pl {g : Nat → List Nat → List Og} {f : Nat → List Nat → T} {p : List Nat} {r : Nat} : ∀ (i : Nat) (bs : List Bd), (∀ d ∈ dosBs bs, (g d.1 d.2).map Og.h = (plT (f d.1 d.2)).map (·.1)) → (orgBs g p r i bs).map Og.h = (plTs i (layBs f bs)).map (·.1)
  | i, [], h => by rw [orgBs, layBs, plTs]; rfl
  | i, b :: bs, h => by
    have h1 := orgB_pl (p := p) (r := r) b fun d hd => h d (by rw [dosBs]; exact List.mem_append_left _ hd)
    have h2 := orgBs_pl (p := p) (r := r) (i + 1) bs fun d hd => h d (by rw [dosBs]; exact List.mem_append_right _ hd)
    rw [orgBs, layBs, plTs, List.map_append, List.map_append, ← h2, List.map_map, List.map_map]
    congr 1
    have e1 : (Og.h ∘ Og.under [i]) = (fun q => i :: q) ∘ Og.h := by funext o; rfl
    have e2 : ((fun x : List Nat × T => x.1) ∘ fun p : List Nat × T => (i :: p.1, p.2)) = (fun q => i :: q) ∘ (fun x : List Nat × T => x.1) := by funext o; rfl
    rw [e1, e2, ← List.map_map, ← List.map_map]
    exact congrArg (List.map fun q => i :: q) h1
end
theorem org_pl {rs : List Ru} (hb : okBk rs) {t0 : T} (hh : ht t0 ≤ 12) : ∀ (n : Nat) {p : List Nat} {s : Nat} {u v : T}, ht u ≤ n → subT t0 p = some u → come rs t0 p s = .tr v → (org rs t0 p s).map Og.h = (plT v).map (·.1)
  | 0, p, s, u, v, hn, hu, h => by have := ht_pos u; omega
  | n + 1, p, s, u, v, hn, hu, h => by
    cases hr : ruleAt rs t0 p s with
    | none => rw [come_none hr] at h; cases h
    | some r =>
      rw [come_some hb hh hr] at h
      rw [org_some hb hh hr]
      obtain ⟨ru, u0, e1, e2, ok, hu0, hf, hd⟩ := rule_dos hb hr
      rw [hu] at hu0; cases hu0
      rw [e2] at h ⊢
      obtain ⟨h1, h2, h3⟩ := comeB_tr h
      rw [h2]
      refine orgB_pl _ fun d hd' => ?_
      obtain ⟨v', hv'⟩ := h1 d hd'
      obtain ⟨_, a2, a3, u', hu', hl⟩ := hd d hd'
      rw [hv']
      exact org_pl hb hh n (by omega) hu' hv'
/-! what each part says -/
mutual
def labsB : Bd → List Nat
  | .go _ _ => []
  | .node c ks => c :: labsBs ks
def labsBs : List Bd → List Nat
  | [] => []
  | b :: bs => labsB b ++ labsBs bs
end
/-- a part is told rightly: its place is one, its rule is the first of its state's there, its label is one of the rule's build -/
structure OgOk (rs : List Ru) (t0 v : T) (o : Og) : Prop where
  pl : ∃ u, subT t0 o.p = some u
  rl : ruleAt rs t0 o.p (rs.getD o.r ru0).s = some o.r
  lb : ∃ c ks, subT v o.h = some (.node c ks) ∧ c ∈ labsB (rs.getD o.r ru0).b
mutual
theorem orgB_ok {rs : List Ru} {t0 : T} {g : Nat → List Nat → List Og} {f : Nat → List Nat → T} {p : List Nat} {r : Nat} (hp : ∃ u, subT t0 p = some u) (hr : ruleAt rs t0 p (rs.getD r ru0).s = some r) : ∀ b : Bd, (∀ c ∈ labsB b, c ∈ labsB (rs.getD r ru0).b) → (∀ d ∈ dosB b, ∀ o ∈ g d.1 d.2, OgOk rs t0 (f d.1 d.2) o) → ∀ o ∈ orgB g p r b, OgOk rs t0 (layB f b) o
  | .go s q, hl, h, o, ho => by rw [orgB] at ho; rw [layB]; exact h (s, q) (by rw [dosB]; simp) o ho
  | .node c ks, hl, h, o, ho => by
    rw [orgB] at ho
    rw [layB]
    rcases List.mem_cons.mp ho with rfl | ho
    · exact ⟨hp, hr, c, _, by rw [subT], hl c (by rw [labsB]; simp)⟩
    · obtain ⟨j, x, q, h1, h2, h3, h4⟩ := orgBs_ok hp hr 0 ks (fun c hc => hl c (by rw [labsB]; exact List.mem_cons_of_mem _ hc)) (fun d hd => h d (by rw [dosB]; exact hd)) o ho
      obtain ⟨a1, a2, c', ks', a3, a4⟩ := h4
      refine ⟨a1, a2, c', ks', ?_, a4⟩
      rw [h1, Nat.zero_add, subT, h2]
      exact a3
theorem orgBs_ok {rs : List Ru} {t0 : T} {g : Nat → List Nat → List Og} {f : Nat → List Nat → T} {p : List Nat} {r : Nat} (hp : ∃ u, subT t0 p = some u) (hr : ruleAt rs t0 p (rs.getD r ru0).s = some r) : ∀ (i : Nat) (bs : List Bd), (∀ c ∈ labsBs bs, c ∈ labsB (rs.getD r ru0).b) → (∀ d ∈ dosBs bs, ∀ o ∈ g d.1 d.2, OgOk rs t0 (f d.1 d.2) o) →
    ∀ o ∈ orgBs g p r i bs, ∃ j x q, o.h = (i + j) :: q ∧ (layBs f bs)[j]? = some x ∧ True ∧ OgOk rs t0 x ⟨q, o.p, o.r⟩
  | i, [], hl, h, o, ho => by rw [orgBs] at ho; cases ho
  | i, b :: bs, hl, h, o, ho => by
    rw [orgBs] at ho
    rcases List.mem_append.mp ho with ho | ho
    · obtain ⟨o', ho', rfl⟩ := List.mem_map.mp ho
      have := orgB_ok hp hr b (fun c hc => hl c (by rw [labsBs]; exact List.mem_append_left _ hc)) (fun d hd => h d (by rw [dosBs]; exact List.mem_append_left _ hd)) o' ho'
      exact ⟨0, layB f b, o'.h, rfl, by rw [layBs]; rfl, trivial, this⟩
    · obtain ⟨j, x, q, h1, h2, h3, h4⟩ := orgBs_ok hp hr (i + 1) bs (fun c hc => hl c (by rw [labsBs]; exact List.mem_append_right _ hc)) (fun d hd => h d (by rw [dosBs]; exact List.mem_append_right _ hd)) o ho
      exact ⟨j + 1, x, q, by rw [h1]; congr 1; omega, by rw [layBs, List.getElem?_cons_succ]; exact h2, trivial, h4⟩
end
end Z
namespace Z
theorem under_under (a b : List Nat) (l : List Og) : (l.map (Og.under b)).map (Og.under a) = l.map (Og.under (a ++ b)) := by
  rw [List.map_map]
  refine List.map_congr_left fun o _ => ?_
  simp [Og.under, List.append_assoc]
/-- what a stack of builds still tells -/
def stkO (g : Nat → List Nat → List Og) (p : List Nat) (r : Nat) (Q : List (List Nat × Bd)) : List Og := Q.flatMap fun x => (orgB g p r x.2).map (Og.under x.1)
def kidsO (h : List Nat) (i : Nat) (ks : List Bd) : List (List Nat × Bd) := (ks.zipIdx i).map fun x => (h ++ [x.2], x.1)
theorem stkO_kids {g : Nat → List Nat → List Og} {p : List Nat} {r : Nat} (h : List Nat) : ∀ (i : Nat) (ks : List Bd), stkO g p r (kidsO h i ks) = (orgBs g p r i ks).map (Og.under h)
  | i, [] => by rw [orgBs]; rfl
  | i, b :: bs => by
    have ih := stkO_kids (g := g) (p := p) (r := r) h (i + 1) bs
    unfold stkO kidsO at ih ⊢
    rw [List.zipIdx_cons, List.map_cons, List.flatMap_cons, ih, orgBs, List.map_append, under_under]
theorem stkO_app {g : Nat → List Nat → List Og} {p : List Nat} {r : Nat} (a b : List (List Nat × Bd)) : stkO g p r (a ++ b) = stkO g p r a ++ stkO g p r b := List.flatMap_append ..
theorem stkO_node {g : Nat → List Nat → List Og} {p : List Nat} {r : Nat} (h : List Nat) (c : Nat) (ks : List Bd) (Q : List (List Nat × Bd)) : stkO g p r ((h, .node c ks) :: Q) = ⟨h, p, r⟩ :: stkO g p r (kidsO h 0 ks ++ Q) := by
  rw [stkO_app, stkO_kids]
  unfold stkO
  rw [List.flatMap_cons, orgB, List.map_cons]
  simp [Og.under]
theorem stkO_go {g : Nat → List Nat → List Og} {p : List Nat} {r : Nat} (h : List Nat) (s : Nat) (q : List Nat) (Q : List (List Nat × Bd)) : stkO g p r ((h, .go s q) :: Q) = (g s q).map (Og.under h) ++ stkO g p r Q := by
  unfold stkO
  rw [List.flatMap_cons, orgB]
theorem stkO_one {g : Nat → List Nat → List Og} {p : List Nat} {r : Nat} (b : Bd) : stkO g p r [([], b)] = orgB g p r b := by
  unfold stkO
  rw [List.flatMap_cons, List.flatMap_nil, List.append_nil]
  have : ∀ l : List Og, l.map (Og.under []) = l := fun l => by
    conv => rhs; rw [← List.map_id l]
    exact List.map_congr_left fun o _ => rfl
  exact this _
def szq' (Q : List (List Nat × Bd)) : Nat := (Q.map fun x => szB x.2).sum
theorem szq'_kids (h : List Nat) : ∀ (i : Nat) (ks : List Bd), szq' (kidsO h i ks) = szBs ks
  | i, [] => rfl
  | i, b :: bs => by
    have ih := szq'_kids h (i + 1) bs
    unfold szq' kidsO at ih ⊢
    rw [List.zipIdx_cons, List.map_cons, List.map_cons, List.sum_cons, ih, szBs]
theorem szq'_app (a b : List (List Nat × Bd)) : szq' (a ++ b) = szq' a + szq' b := by unfold szq'; rw [List.map_append, List.sum_append]
end Z
/-! sorted of plain data -/
namespace Z
open PySem.W PyProof.Rows
def tokD (d : D) : List (Int ⊕ List Nat) := keyToks (pyD d)
def leD (a b : D) : Bool := sortLe (listOrd itemOrd) false tokD a b
def srtP (xs : List D) : List D := xs.mergeSort leD
theorem pyDs_map : ∀ xs : List D, pyDs xs = xs.map pyD
  | [] => rfl
  | x :: xs => by rw [pyDs, pyDs_map xs]; rfl
theorem srtL_pl {st : Sto} : ∀ {xs : List D}, plDs xs = true → srtL st xs = some (xs.map fun x => (x, pyD x))
  | [], _ => rfl
  | x :: xs, h => by
    rw [plDs, Bool.and_eq_true] at h
    rw [srtL, toP_pl h.1, srtL_pl h.2]
    rfl
theorem plDs_mem {xs : List D} (h : plDs xs = true) {x : D} (hx : x ∈ xs) : plD x = true := by
  induction xs with
  | nil => cases hx
  | cons y xs ih =>
    rw [plDs, Bool.and_eq_true] at h
    rcases List.mem_cons.mp hx with rfl | hx
    · exact h.1
    · exact ih h.2 hx
theorem srtD_pl {st : Sto} {n : Nat} {xs : List D} (h : st[n]? = some (.lst xs)) (hp : plDs xs = true) (ha : alikeB (pyDs xs) = true) (hs : sortB (pyDs xs) = true) (hd : depDs xs ≤ 190) : srtD (.loc n) st = .ok (.loc st.length) (st ++ [.lst (srtP xs)]) := by
  unfold srtD plist
  simp only [h, ofO, R_bind_ok, srtL_pl hp]
  have e1 : ((xs.map fun x => (x, pyD x)).map (·.2)) = pyDs xs := by rw [pyDs_map, List.map_map]; rfl
  have e2 : ((xs.map fun x => (x, pyD x)).all fun p => decide (p.2.depth ≤ 190)) = true := by
    rw [List.all_eq_true]
    intro p hp'
    obtain ⟨x, hx, rfl⟩ := List.mem_map.mp hp'
    have h1 := dep_pl x
    have h2 := depDs_mem hx
    simp; omega
  rw [e1, if_pos ⟨ha, hs, e2⟩]
  congr 2
  unfold srtP
  have e3 := List.map_mergeSort (r := leD) (s := dataLe false fun p : D × PySem.PyData => p.2) (f := fun x : D => (x, pyD x)) (l := xs) fun a _ b _ => rfl
  rw [← e3, List.map_map]
  have e4 : ((fun p : D × PySem.PyData => p.1) ∘ fun x : D => (x, pyD x)) = id := rfl
  rw [e4, List.map_id]
theorem leD_tot : TotalLe leD := sortLe_total (listOrd itemOrd) false tokD
theorem srtP_perm (xs : List D) : (srtP xs).Perm xs := List.mergeSort_perm xs leD
theorem srtP_mem {xs : List D} {x : D} : x ∈ srtP xs ↔ x ∈ xs := List.mem_mergeSort
theorem srtP_pw (xs : List D) : (srtP xs).Pairwise fun a b => leD a b = true := List.pairwise_mergeSort leD_tot.trans (fun a b => by rw [Bool.or_eq_true]; exact leD_tot.total a b) xs
theorem leD_anti {a b : D} (h1 : leD a b = true) (h2 : leD b a = true) : tokD a = tokD b := by
  unfold leD sortLe at h1 h2
  simp only [cond_false, Bool.not_eq_true'] at h1 h2
  exact (listOrd itemOrd).total _ _ h2 h1
theorem srtP_eq {xs ys : List D} (h : xs.Perm ys) (hi : ∀ a ∈ xs, ∀ b ∈ xs, tokD a = tokD b → a = b) : srtP xs = srtP ys := by
  refine List.Perm.eq_of_pairwise (le := fun a b => leD a b = true) (fun a b ha hb h1 h2 => ?_) (srtP_pw xs) (srtP_pw ys) (((srtP_perm xs).trans h).trans (srtP_perm ys).symm)
  exact hi a (srtP_mem.mp ha) b (h.mem_iff.mpr (srtP_mem.mp hb)) (leD_anti h1 h2)
theorem plDs_of {xs : List D} (h : ∀ x ∈ xs, plD x = true) : plDs xs = true := by
  have := plDs_map (u := id) (l := xs) h
  rwa [List.map_id] at this
theorem depDs_of {xs : List D} {n : Nat} (h : ∀ x ∈ xs, depD x ≤ n) : depDs xs ≤ n := by
  have := depDs_map (u := id) (l := xs) h
  rwa [List.map_id] at this
/-! places -/
theorem py_Pa (p : List Nat) : pyD (dPa p) = .tuple ((p.map fun (i : Nat) => (i : Int)).map PySem.PyData.int) := by
  unfold dPa
  rw [pyD, pyDs_map, List.map_map, List.map_map]
  congr 1
theorem toks_ints : ∀ a b : List Int, keyToksAll (a.map PySem.PyData.int) = keyToksAll (b.map PySem.PyData.int) → a = b
  | [], [], _ => rfl
  | [], y :: b, h => by simp [keyToksAll, keyToks] at h
  | x :: a, [], h => by simp [keyToksAll, keyToks] at h
  | x :: a, y :: b, h => by
    simp [keyToksAll, keyToks] at h
    rw [h.1, toks_ints a b h.2]
theorem tok_Pa {p q : List Nat} (h : tokD (dPa p) = tokD (dPa q)) : p = q := by
  unfold tokD at h
  rw [py_Pa, py_Pa, keyToks, keyToks] at h
  have := toks_ints _ _ h
  exact (List.map_inj_right fun a b e => by have e' : (a : Int) = b := e; omega).mp this
theorem alike_Pa (p q : List Nat) : alike (pyD (dPa p)) (pyD (dPa q)) = true := by
  rw [py_Pa, py_Pa, alike]
  exact alike_ints _ _
theorem srtD_Pa {st : Sto} {n : Nat} {ps : List (List Nat)} (h : st[n]? = some (.lst (ps.map dPa))) : srtD (.loc n) st = .ok (.loc st.length) (st ++ [.lst (srtP (ps.map dPa))]) := by
  refine srtD_pl h (plDs_map fun p _ => dPa_pl p) ?_ ?_ (Nat.le_trans (depDs_map fun p _ => dPa_dep p) (by decide))
  · unfold alikeB
    rw [pyDs_map, List.map_map, List.all_eq_true]
    intro d hd
    rw [List.all_eq_true]
    intro d' hd'
    obtain ⟨p, _, rfl⟩ := List.mem_map.mp hd
    obtain ⟨q, _, rfl⟩ := List.mem_map.mp hd'
    exact alike_Pa p q
  · unfold sortB
    rw [Bool.or_eq_true, pyDs_map, List.map_map]
    left
    rw [List.all_eq_true]
    intro d hd
    obtain ⟨p, _, rfl⟩ := List.mem_map.mp hd
    simp only [Function.comp, py_Pa]
theorem srtP_Pa {ps qs : List (List Nat)} (h : ps.Perm qs) : srtP (ps.map dPa) = srtP (qs.map dPa) := by
  refine srtP_eq (h.map dPa) fun a ha b hb e => ?_
  obtain ⟨p, _, rfl⟩ := List.mem_map.mp ha
  obtain ⟨q, _, rfl⟩ := List.mem_map.mp hb
  rw [tok_Pa e]
end Z
/-! ### the text as IR (printed by gen.py) -/
namespace Law
open Z
def n_known : PySem.Str := PySem.Str.mk #[107, 110, 111, 119, 110]
def n_book : PySem.Str := PySem.Str.mk #[98, 111, 111, 107]
def n_tree : PySem.Str := PySem.Str.mk #[116, 114, 101, 101]
def n_sizes : PySem.Str := PySem.Str.mk #[115, 105, 122, 101, 115]
def n_number : PySem.Str := PySem.Str.mk #[110, 117, 109, 98, 101, 114]
def n_place : PySem.Str := PySem.Str.mk #[112, 108, 97, 99, 101]
def n_reach : PySem.Str := PySem.Str.mk #[114, 101, 97, 99, 104]
def n_rule : PySem.Str := PySem.Str.mk #[114, 117, 108, 101]
def n_parts : PySem.Str := PySem.Str.mk #[112, 97, 114, 116, 115]
def n_built : PySem.Str := PySem.Str.mk #[98, 117, 105, 108, 116]
@[simp] theorem ne_n_known_n_book : (n_known = n_book) = False := by unfold n_known n_book; simp
@[simp] theorem ne_n_known_n_tree : (n_known = n_tree) = False := by unfold n_known n_tree; simp
@[simp] theorem ne_n_known_n_sizes : (n_known = n_sizes) = False := by unfold n_known n_sizes; simp
@[simp] theorem ne_n_known_n_number : (n_known = n_number) = False := by unfold n_known n_number; simp
@[simp] theorem ne_n_known_n_place : (n_known = n_place) = False := by unfold n_known n_place; simp
@[simp] theorem ne_n_known_n_reach : (n_known = n_reach) = False := by unfold n_known n_reach; simp
@[simp] theorem ne_n_known_n_rule : (n_known = n_rule) = False := by unfold n_known n_rule; simp
@[simp] theorem ne_n_known_n_parts : (n_known = n_parts) = False := by unfold n_known n_parts; simp
@[simp] theorem ne_n_known_n_built : (n_known = n_built) = False := by unfold n_known n_built; simp
@[simp] theorem ne_n_book_n_known : (n_book = n_known) = False := by unfold n_book n_known; simp
@[simp] theorem ne_n_book_n_tree : (n_book = n_tree) = False := by unfold n_book n_tree; simp
@[simp] theorem ne_n_book_n_sizes : (n_book = n_sizes) = False := by unfold n_book n_sizes; simp
@[simp] theorem ne_n_book_n_number : (n_book = n_number) = False := by unfold n_book n_number; simp
@[simp] theorem ne_n_book_n_place : (n_book = n_place) = False := by unfold n_book n_place; simp
@[simp] theorem ne_n_book_n_reach : (n_book = n_reach) = False := by unfold n_book n_reach; simp
@[simp] theorem ne_n_book_n_rule : (n_book = n_rule) = False := by unfold n_book n_rule; simp
@[simp] theorem ne_n_book_n_parts : (n_book = n_parts) = False := by unfold n_book n_parts; simp
@[simp] theorem ne_n_book_n_built : (n_book = n_built) = False := by unfold n_book n_built; simp
@[simp] theorem ne_n_tree_n_known : (n_tree = n_known) = False := by unfold n_tree n_known; simp
@[simp] theorem ne_n_tree_n_book : (n_tree = n_book) = False := by unfold n_tree n_book; simp
@[simp] theorem ne_n_tree_n_sizes : (n_tree = n_sizes) = False := by unfold n_tree n_sizes; simp
@[simp] theorem ne_n_tree_n_number : (n_tree = n_number) = False := by unfold n_tree n_number; simp
@[simp] theorem ne_n_tree_n_place : (n_tree = n_place) = False := by unfold n_tree n_place; simp
@[simp] theorem ne_n_tree_n_reach : (n_tree = n_reach) = False := by unfold n_tree n_reach; simp
@[simp] theorem ne_n_tree_n_rule : (n_tree = n_rule) = False := by unfold n_tree n_rule; simp
@[simp] theorem ne_n_tree_n_parts : (n_tree = n_parts) = False := by unfold n_tree n_parts; simp
@[simp] theorem ne_n_tree_n_built : (n_tree = n_built) = False := by unfold n_tree n_built; simp
@[simp] theorem ne_n_sizes_n_known : (n_sizes = n_known) = False := by unfold n_sizes n_known; simp
@[simp] theorem ne_n_sizes_n_book : (n_sizes = n_book) = False := by unfold n_sizes n_book; simp
@[simp] theorem ne_n_sizes_n_tree : (n_sizes = n_tree) = False := by unfold n_sizes n_tree; simp
@[simp] theorem ne_n_sizes_n_number : (n_sizes = n_number) = False := by unfold n_sizes n_number; simp
@[simp] theorem ne_n_sizes_n_place : (n_sizes = n_place) = False := by unfold n_sizes n_place; simp
@[simp] theorem ne_n_sizes_n_reach : (n_sizes = n_reach) = False := by unfold n_sizes n_reach; simp
@[simp] theorem ne_n_sizes_n_rule : (n_sizes = n_rule) = False := by unfold n_sizes n_rule; simp
@[simp] theorem ne_n_sizes_n_parts : (n_sizes = n_parts) = False := by unfold n_sizes n_parts; simp
@[simp] theorem ne_n_sizes_n_built : (n_sizes = n_built) = False := by unfold n_sizes n_built; simp
@[simp] theorem ne_n_number_n_known : (n_number = n_known) = False := by unfold n_number n_known; simp
@[simp] theorem ne_n_number_n_book : (n_number = n_book) = False := by unfold n_number n_book; simp
@[simp] theorem ne_n_number_n_tree : (n_number = n_tree) = False := by unfold n_number n_tree; simp
@[simp] theorem ne_n_number_n_sizes : (n_number = n_sizes) = False := by unfold n_number n_sizes; simp
@[simp] theorem ne_n_number_n_place : (n_number = n_place) = False := by unfold n_number n_place; simp
@[simp] theorem ne_n_number_n_reach : (n_number = n_reach) = False := by unfold n_number n_reach; simp
@[simp] theorem ne_n_number_n_rule : (n_number = n_rule) = False := by unfold n_number n_rule; simp
@[simp] theorem ne_n_number_n_parts : (n_number = n_parts) = False := by unfold n_number n_parts; simp
@[simp] theorem ne_n_number_n_built : (n_number = n_built) = False := by unfold n_number n_built; simp
@[simp] theorem ne_n_place_n_known : (n_place = n_known) = False := by unfold n_place n_known; simp
@[simp] theorem ne_n_place_n_book : (n_place = n_book) = False := by unfold n_place n_book; simp
@[simp] theorem ne_n_place_n_tree : (n_place = n_tree) = False := by unfold n_place n_tree; simp
@[simp] theorem ne_n_place_n_sizes : (n_place = n_sizes) = False := by unfold n_place n_sizes; simp
@[simp] theorem ne_n_place_n_number : (n_place = n_number) = False := by unfold n_place n_number; simp
@[simp] theorem ne_n_place_n_reach : (n_place = n_reach) = False := by unfold n_place n_reach; simp
@[simp] theorem ne_n_place_n_rule : (n_place = n_rule) = False := by unfold n_place n_rule; simp
@[simp] theorem ne_n_place_n_parts : (n_place = n_parts) = False := by unfold n_place n_parts; simp
@[simp] theorem ne_n_place_n_built : (n_place = n_built) = False := by unfold n_place n_built; simp
@[simp] theorem ne_n_reach_n_known : (n_reach = n_known) = False := by unfold n_reach n_known; simp
@[simp] theorem ne_n_reach_n_book : (n_reach = n_book) = False := by unfold n_reach n_book; simp
@[simp] theorem ne_n_reach_n_tree : (n_reach = n_tree) = False := by unfold n_reach n_tree; simp
@[simp] theorem ne_n_reach_n_sizes : (n_reach = n_sizes) = False := by unfold n_reach n_sizes; simp
@[simp] theorem ne_n_reach_n_number : (n_reach = n_number) = False := by unfold n_reach n_number; simp
@[simp] theorem ne_n_reach_n_place : (n_reach = n_place) = False := by unfold n_reach n_place; simp
@[simp] theorem ne_n_reach_n_rule : (n_reach = n_rule) = False := by unfold n_reach n_rule; simp
@[simp] theorem ne_n_reach_n_parts : (n_reach = n_parts) = False := by unfold n_reach n_parts; simp
@[simp] theorem ne_n_reach_n_built : (n_reach = n_built) = False := by unfold n_reach n_built; simp
@[simp] theorem ne_n_rule_n_known : (n_rule = n_known) = False := by unfold n_rule n_known; simp
@[simp] theorem ne_n_rule_n_book : (n_rule = n_book) = False := by unfold n_rule n_book; simp
@[simp] theorem ne_n_rule_n_tree : (n_rule = n_tree) = False := by unfold n_rule n_tree; simp
@[simp] theorem ne_n_rule_n_sizes : (n_rule = n_sizes) = False := by unfold n_rule n_sizes; simp
@[simp] theorem ne_n_rule_n_number : (n_rule = n_number) = False := by unfold n_rule n_number; simp
@[simp] theorem ne_n_rule_n_place : (n_rule = n_place) = False := by unfold n_rule n_place; simp
@[simp] theorem ne_n_rule_n_reach : (n_rule = n_reach) = False := by unfold n_rule n_reach; simp
@[simp] theorem ne_n_rule_n_parts : (n_rule = n_parts) = False := by unfold n_rule n_parts; simp
@[simp] theorem ne_n_rule_n_built : (n_rule = n_built) = False := by unfold n_rule n_built; simp
@[simp] theorem ne_n_parts_n_known : (n_parts = n_known) = False := by unfold n_parts n_known; simp
@[simp] theorem ne_n_parts_n_book : (n_parts = n_book) = False := by unfold n_parts n_book; simp
@[simp] theorem ne_n_parts_n_tree : (n_parts = n_tree) = False := by unfold n_parts n_tree; simp
@[simp] theorem ne_n_parts_n_sizes : (n_parts = n_sizes) = False := by unfold n_parts n_sizes; simp
@[simp] theorem ne_n_parts_n_number : (n_parts = n_number) = False := by unfold n_parts n_number; simp
@[simp] theorem ne_n_parts_n_place : (n_parts = n_place) = False := by unfold n_parts n_place; simp
@[simp] theorem ne_n_parts_n_reach : (n_parts = n_reach) = False := by unfold n_parts n_reach; simp
@[simp] theorem ne_n_parts_n_rule : (n_parts = n_rule) = False := by unfold n_parts n_rule; simp
@[simp] theorem ne_n_parts_n_built : (n_parts = n_built) = False := by unfold n_parts n_built; simp
@[simp] theorem ne_n_built_n_known : (n_built = n_known) = False := by unfold n_built n_known; simp
@[simp] theorem ne_n_built_n_book : (n_built = n_book) = False := by unfold n_built n_book; simp
@[simp] theorem ne_n_built_n_tree : (n_built = n_tree) = False := by unfold n_built n_tree; simp
@[simp] theorem ne_n_built_n_sizes : (n_built = n_sizes) = False := by unfold n_built n_sizes; simp
@[simp] theorem ne_n_built_n_number : (n_built = n_number) = False := by unfold n_built n_number; simp
@[simp] theorem ne_n_built_n_place : (n_built = n_place) = False := by unfold n_built n_place; simp
@[simp] theorem ne_n_built_n_reach : (n_built = n_reach) = False := by unfold n_built n_reach; simp
@[simp] theorem ne_n_built_n_rule : (n_built = n_rule) = False := by unfold n_built n_rule; simp
@[simp] theorem ne_n_built_n_parts : (n_built = n_parts) = False := by unfold n_built n_parts; simp
abbrev g_ANY : D := (.tup [(.str [97, 110, 121])])
abbrev g_DO : D := (.str [100, 111])
abbrev g_LABELS : D := (.str [97, 98, 99, 100, 101, 102])
abbrev g_LEAF : D := (.tup [(.str [108, 101, 97, 102])])
abbrev g_MOST_BUILD : D := (.int 12)
abbrev g_MOST_BUILD_DEEP : D := (.int 4)
abbrev g_MOST_DEEP : D := (.int 12)
abbrev g_MOST_KIDS : D := (.int 3)
abbrev g_MOST_PARTS : D := (.int 7)
abbrev g_MOST_PATTERN_DEEP : D := (.int 3)
abbrev g_MOST_PLACES : D := (.int 60)
abbrev g_MOST_RULES : D := (.int 16)
abbrev g_MOST_STATE : D := (.int 5)
abbrev g_MOST_TOLD : D := (.int 400)
abbrev f_law : Nat := 0
abbrev f_law_begun : Nat := 1
abbrev f_law_letters : Nat := 2
abbrev f_law_book : Nat := 3
abbrev f_law_tree : Nat := 4
abbrev f_told : Nat := 5
abbrev f_origins : Nat := 6
abbrev f_law_right : Nat := 7
abbrev f_law_places : Nat := 8
abbrev f_comes_of : Nat := 9
abbrev f_law_take : Nat := 10
abbrev f_law_rule : Nat := 11
abbrev f_law_grown : Nat := 12
abbrev f_need_book : Nat := 13
abbrev f_need_tree : Nat := 14
abbrev f_told_by : Nat := 15
abbrev f_origins_at : Nat := 16
abbrev f_law_labels : Nat := 17
abbrev f_law_fitting : Nat := 18
abbrev f_at_place : Nat := 19
abbrev f_law_pattern : Nat := 20
abbrev f_law_parts : Nat := 21
abbrev f_law_paths : Nat := 22
abbrev f_law_build : Nat := 23
abbrev f_is_rule : Nat := 24
abbrev f_is_node : Nat := 25
abbrev f_Telling_init : Nat := 26
abbrev f_Telling_reach : Nat := 27
abbrev f_Telling_rule : Nat := 28
abbrev f_law_fits : Nat := 29
abbrev f_is_spot : Nat := 30
abbrev f_is_number : Nat := 31
abbrev f_pattern_parts : Nat := 32
abbrev f_build_parts : Nat := 33
abbrev f_is_label : Nat := 34
abbrev f_dos_of : Nat := 35
abbrev f_Telling_parts : Nat := 36
abbrev f_Telling_built : Nat := 37
abbrev f_rules_at : Nat := 38
abbrev f_above : Nat := 39
abbrev f_has_path : Nat := 40
abbrev f_fits : Nat := 41
abbrev f_is_at : Nat := 42
abbrev c_Telling : Nat := 0
abbrev c_BadBook : Nat := 1
abbrev c_BadTree : Nat := 2
abbrev c_BadPlace : Nat := 3
abbrev c_TooBig : Nat := 4
abbrev m_reach : Nat := 0
abbrev m_rule : Nat := 1
abbrev m_parts : Nat := 2
abbrev m_built : Nat := 3
/-- law(_law_script) : 0 _law_script, 1 _law_box, 2 _law_letters_here, 3 _law_book_here, 4 _law_turn, 5 _law_tree_here, 6 _law_come, 7 _law_some, 8 _law_every, 9 _law_place, 10 _law_part, 11 _law_here, 12 _law_whence, 13 _law_rule_here -/
def l_law2b : ISs := (.cons (.asg (.name 8) (.bin .add (.var 8) (.call f_comes_of (.cons (.var 3) (.cons (.var 5) (.cons (.var 9) .nil)))))) .nil)
def l_law2 : IS := .for_ (.tup [9, 10]) (.it (.call f_law_places (.cons (.var 5) .nil))) l_law2b
def c_lawe : IE := (.var 11)
def c_law : IE := .comp c_lawe (.tup [11, 12, 13]) [11, 12, 13] (.it (.var 7)) .none
def l_lawb : ISs := (.cons (.asg (.name 5) (.call f_law_tree (.cons (.var 1) (.cons (.var 2) .nil)))) (.cons (.asg (.name 6) (.told (.call f_told (.cons (.var 3) (.cons (.var 5) .nil))))) (.cons (.asg (.name 7) (.told (.call f_origins (.cons (.var 3) (.cons (.var 5) .nil))))) (.cons (.ite (.or (.cmp .isN (.var 6) (.cst .non)) (.cmp .eq (.var 6) (.tup (.cons (.cst (.str [84, 111, 111, 66, 105, 103])) (.cons (.cst (.int 0)) .nil))))) (.cons (.ite (.cmp .ne (.var 7) (.var 6)) (.cons (.ret (.cst (.bl false))) .nil) .nil) .nil) (.cons (.ite (.not (.call f_law_right (.cons (.var 3) (.cons (.var 5) (.cons (.var 6) (.cons (.var 7) .nil)))))) (.cons (.ret (.cst (.bl false))) .nil) .nil) (.cons (.asg (.name 8) (.lst .nil)) (.cons l_law2 (.cons (.ite (.cmp .ne (.srt (.var 8)) (.srt c_law)) (.cons (.ret (.cst (.bl false))) .nil) .nil) .nil))))) .nil))))
def l_law : IS := .for_ (.name 4) (.rng1 (.cst (.int 4))) l_lawb
def b_law : ISs := (.cons (.asg (.name 1) (.call f_law_begun (.cons (.var 0) .nil))) (.cons (.asg (.name 2) (.call f_law_letters (.cons (.var 1) .nil))) (.cons (.asg (.name 3) (.call f_law_book (.cons (.var 1) (.cons (.var 2) .nil)))) (.cons l_law (.cons (.ret (.cst (.bl true))) .nil)))))
/-- _law_begun(_law_script) : 0 _law_script, 1 _law_stirred, 2 _law_cell -/
def l_law_begunb : ISs := (.cons (.asg (.name 1) (.bin .mod (.bin .add (.bin .add (.bin .mul (.var 1) (.cst (.int 48271))) (.bin .mul (.var 2) (.cst (.int 69621)))) (.cst (.int 11))) (.cst (.int 2147483647)))) .nil)
def l_law_begun : IS := .for_ (.name 2) (.it (.var 0)) l_law_begunb
def b_law_begun : ISs := (.cons (.asg (.name 1) (.cst (.int 0))) (.cons l_law_begun (.cons (.ret (.lst (.cons (.bi .list (.var 0)) (.cons (.bin .mul (.var 1) (.bi .int (.cmp .gt (.bi .len (.var 0)) (.cst (.int 2))))) .nil)))) .nil)))
/-- _law_letters(_law_box) : 0 _law_box, 1 _law_left, 2 _law_k -/
def c_law_letterse : IE := (.me1 .pop (.var 1) (.call f_law_take (.cons (.var 0) (.cons (.bi .len (.var 1)) .nil))))
def c_law_letters : IE := .comp c_law_letterse (.name 2) [2] (.rng1 (.ix (.lst (.cons (.cst (.int 1)) (.cons (.cst (.int 2)) (.cons (.cst (.int 3)) (.cons (.cst (.int 6)) .nil))))) (.call f_law_take (.cons (.var 0) (.cons (.cst (.int 4)) .nil))))) .none
def b_law_letters : ISs := (.cons (.asg (.name 1) (.bi .list (.cst (.str [97, 98, 99, 100, 101, 102])))) (.cons (.ret (.me1 .join (.cst (.str [])) c_law_letters)) .nil))
/-- _law_book(_law_box, _law_letters_here) : 0 _law_box, 1 _law_letters_here, 2 _law_left, 3 _law_states, 4 _law_found, 5 _law_state, 6 _law_k -/
def c_law_booke : IE := (.me1 .pop (.var 2) (.call f_law_take (.cons (.var 0) (.cons (.bi .len (.var 2)) .nil))))
def c_law_book : IE := .comp c_law_booke (.name 6) [6] (.rng1 (.ix (.lst (.cons (.cst (.int 0)) (.cons (.cst (.int 1)) (.cons (.cst (.int 2)) (.cons (.cst (.int 5)) .nil))))) (.call f_law_take (.cons (.var 0) (.cons (.cst (.int 4)) .nil))))) .none
def c_law_book2e : IE := (.call f_law_rule (.cons (.var 0) (.cons (.var 1) (.cons (.var 3) .nil))))
def c_law_book2 : IE := .comp c_law_book2e (.name 6) [6] (.rng1 (.call f_law_take (.cons (.var 0) (.cons (.ix (.lst (.cons (.cst (.int 5)) (.cons (.cst (.int 11)) .nil))) (.call f_law_take (.cons (.var 0) (.cons (.cst (.int 2)) .nil)))) .nil)))) .none
def l_law_bookb : ISs := (.cons (.ite (.cmp .gt (.call f_law_take (.cons (.var 0) (.cons (.cst (.int 4)) .nil))) (.cst (.int 0))) (.cons (.expr (.me1 .append (.var 4) (.tup (.cons (.var 5) (.cons (.cst .non) (.cons (.tup (.cons (.cst (.str [97, 110, 121])) .nil)) (.cons (.tup (.cons (.ix (.var 1) (.call f_law_take (.cons (.var 0) (.cons (.bi .len (.var 1)) .nil)))) (.cons (.tup .nil) .nil))) .nil))))))) .nil) .nil) .nil)
def l_law_book : IS := .for_ (.name 5) (.it (.var 3)) l_law_bookb
def b_law_book : ISs := (.cons (.asg (.name 2) (.lrng2 (.cst (.int 1)) (.cst (.int 6)))) (.cons (.asg (.name 3) (.bin .add (.lst (.cons (.cst (.int 0)) .nil)) c_law_book)) (.cons (.asg (.name 4) c_law_book2) (.cons l_law_book (.cons (.ret (.var 4)) .nil)))))
/-- _law_tree(_law_box, _law_letters_here) : 0 _law_box, 1 _law_letters_here, 2 _law_most -/
def b_law_tree : ISs := (.cons (.asg (.name 2) (.ix (.lst (.cons (.cst (.int 1)) (.cons (.cst (.int 6)) (.cons (.cst (.int 14)) (.cons (.cst (.int 60)) .nil))))) (.call f_law_take (.cons (.var 0) (.cons (.cst (.int 4)) .nil))))) (.cons (.ret (.call f_law_grown (.cons (.var 0) (.cons (.var 1) (.cons (.lst (.cons (.var 2) .nil)) (.cons (.ix (.lst (.cons (.cst (.int 4)) (.cons (.cst (.int 12)) .nil))) (.call f_law_take (.cons (.var 0) (.cons (.cst (.int 2)) .nil)))) .nil)))))) .nil))
/-- told(book, tree) : 0 book, 1 tree -/
def b_told : ISs := (.cons (.expr (.call f_need_book (.cons (.var 0) .nil))) (.cons (.expr (.call f_need_tree (.cons (.var 1) .nil))) (.cons (.ret (.ix (.fld (.call f_told_by (.cons (.var 0) (.cons (.var 1) .nil))) n_known) (.tup (.cons (.tup .nil) (.cons (.cst (.int 0)) .nil))))) .nil)))
/-- origins(book, tree) : 0 book, 1 tree, 2 telling -/
def b_origins : ISs := (.cons (.expr (.call f_need_book (.cons (.var 0) .nil))) (.cons (.expr (.call f_need_tree (.cons (.var 1) .nil))) (.cons (.asg (.name 2) (.call f_told_by (.cons (.var 0) (.cons (.var 1) .nil)))) (.cons (.ret (.ite (.cmp .notN (.ix (.fld (.var 2) n_known) (.tup (.cons (.tup .nil) (.cons (.cst (.int 0)) .nil)))) (.cst .non)) (.call f_origins_at (.cons (.var 2) (.cons (.tup .nil) (.cons (.cst (.int 0)) .nil)))) (.cst .non))) .nil))))
/-- _law_right(_law_book_here, _law_tree_here, _law_come, _law_some) : 0 _law_book_here, 1 _law_tree_here, 2 _law_come, 3 _law_some, 4 _law_known, 5 _law_parts_here, 6 _law_here, 7 _law_whence, 8 _law_rule_here, 9 _law_fit, 10 _law_place, 11 _law_part -/
def c_law_righte : IE := (.var 6)
def c_law_right : IE := .comp c_law_righte (.tup [6, 7, 8]) [6, 7, 8] (.it (.var 3)) .none
def c_law_right2e : IE := (.var 10)
def c_law_right2 : IE := .comp c_law_right2e (.tup [10, 11]) [10, 11] (.it (.call f_law_places (.cons (.var 2) .nil))) .none
def l_law_rightb : ISs := (.cons (.ite (.or (.cmp .nmem (.var 7) (.var 4)) (.cmp .nmem (.ix (.ix (.var 5) (.var 6)) (.cst (.int 0))) (.call f_law_labels (.cons (.ix (.ix (.var 0) (.var 8)) (.cst (.int 3))) .nil)))) (.cons (.ret (.cst (.bl false))) .nil) .nil) (.cons (.asg (.name 9) (.call f_law_fitting (.cons (.var 0) (.cons (.ix (.ix (.var 0) (.var 8)) (.cst (.int 0))) (.cons (.var 7) (.cons (.var 4) .nil)))))) (.cons (.ite (.or (.cmp .eq (.var 9) (.lst .nil)) (.cmp .ne (.ix (.var 9) (.cst (.int 0))) (.var 8))) (.cons (.ret (.cst (.bl false))) .nil) .nil) .nil)))
def l_law_right : IS := .for_ (.tup [6, 7, 8]) (.it (.var 3)) l_law_rightb
def b_law_right : ISs := (.cons (.asg (.name 4) (.dpairs (.call f_law_places (.cons (.var 1) .nil)))) (.cons (.ite (.cmp .ne c_law_right c_law_right2) (.cons (.ret (.cst (.bl false))) .nil) .nil) (.cons (.asg (.name 5) (.dpairs (.call f_law_places (.cons (.var 2) .nil)))) (.cons l_law_right (.cons (.ret (.cst (.bl true))) .nil)))))
/-- _law_places(_law_tree_here) : 0 _law_tree_here, 1 _law_found, 2 _law_k, 3 _law_place, 4 _law_part -/
def c_law_placese : IE := (.tup (.cons (.bin .add (.tup (.cons (.var 2) .nil)) (.var 3)) (.cons (.var 4) .nil)))
def c_law_places : IE := .comp c_law_placese (.tup [3, 4]) [3, 4] (.it (.call f_law_places (.cons (.ix (.ix (.var 0) (.cst (.int 1))) (.var 2)) .nil))) .none
def l_law_placesb : ISs := (.cons (.expr (.me1 .extend (.var 1) c_law_places)) .nil)
def l_law_places : IS := .for_ (.name 2) (.rng1 (.bi .len (.ix (.var 0) (.cst (.int 1))))) l_law_placesb
def b_law_places : ISs := (.cons (.asg (.name 1) (.lst (.cons (.tup (.cons (.tup .nil) (.cons (.var 0) .nil))) .nil))) (.cons l_law_places (.cons (.ret (.var 1)) .nil)))
/-- comes_of(book, tree, place) : 0 book, 1 tree, 2 place, 3 some, 4 here, 5 whence, 6 number -/
def c_comes_ofe : IE := (.var 4)
def c_comes_ofi : IO := (.some (.cmp .eq (.var 5) (.var 2)))
def c_comes_of : IE := .comp c_comes_ofe (.tup [4, 5, 6]) [4, 5, 6] (.it (.var 3)) c_comes_ofi
def b_comes_of : ISs := (.cons (.expr (.call f_need_book (.cons (.var 0) .nil))) (.cons (.expr (.call f_need_tree (.cons (.var 1) .nil))) (.cons (.expr (.call f_at_place (.cons (.var 1) (.cons (.var 2) .nil)))) (.cons (.asg (.name 3) (.call f_origins (.cons (.var 0) (.cons (.var 1) .nil)))) (.cons (.ret (.ite (.cmp .notN (.var 3) (.cst .non)) c_comes_of (.lst .nil))) .nil)))))
/-- _law_take(_law_box, _law_many) : 0 _law_box, 1 _law_many, 2 _law_number -/
def b_law_take : ISs := (.cons (.ite (.cmp .eq (.ix (.var 0) (.cst (.int 0))) (.lst .nil)) (.cons (.seti (.var 0) (.cst (.int 1)) (.bin .mod (.bin .mul (.ix (.var 0) (.cst (.int 1))) (.cst (.int 48271))) (.cst (.int 2147483647)))) (.cons (.ret (.bin .mod (.bin .fdiv (.ix (.var 0) (.cst (.int 1))) (.cst (.int 7))) (.var 1))) .nil)) .nil) (.cons (.asg (.name 2) (.ix (.ix (.var 0) (.cst (.int 0))) (.cst (.int 0)))) (.cons (.seti (.ix (.var 0) (.cst (.int 0))) (.cst (.int 0)) (.bin .fdiv (.var 2) (.var 1))) (.cons (.ite (.or (.cmp .eq (.ix (.ix (.var 0) (.cst (.int 0))) (.cst (.int 0))) (.cst (.int 0))) (.cmp .eq (.ix (.ix (.var 0) (.cst (.int 0))) (.cst (.int 0))) (.cst (.int (-1))))) (.cons (.expr (.me1 .pop (.ix (.var 0) (.cst (.int 0))) (.cst (.int 0)))) .nil) .nil) (.cons (.ret (.bin .mod (.var 2) (.var 1))) .nil)))))
/-- _law_rule(_law_box, _law_letters_here, _law_states) : 0 _law_box, 1 _law_letters_here, 2 _law_states, 3 _law_pattern_here, 4 _law_paths_here, 5 _law_build_here, 6 _law_spots -/
def b_law_rule : ISs := (.cons (.asg (.name 3) (.call f_law_pattern (.cons (.var 0) (.cons (.var 1) (.cons (.bin .add (.cst (.int 1)) (.call f_law_take (.cons (.var 0) (.cons (.cst (.int 3)) .nil)))) .nil))))) (.cons (.ite (.cmp .gt (.call f_law_parts (.cons (.var 3) .nil)) (.cst (.int 7))) (.cons (.asg (.name 3) (.tup (.cons (.ix (.var 3) (.cst (.int 0))) (.cons (.bin .mul (.tup (.cons (.tup (.cons (.cst (.str [97, 110, 121])) .nil)) .nil)) (.bi .len (.ix (.var 3) (.cst (.int 1))))) .nil)))) .nil) .nil) (.cons (.asg (.name 4) (.call f_law_paths (.cons (.var 3) .nil))) (.cons (.asg (.name 5) (.call f_law_build (.cons (.var 0) (.cons (.var 1) (.cons (.var 2) (.cons (.var 4) (.cons (.bin .add (.cst (.int 1)) (.call f_law_take (.cons (.var 0) (.cons (.cst (.int 4)) .nil)))) .nil))))))) (.cons (.ite (.cmp .gt (.call f_law_parts (.cons (.var 5) .nil)) (.cst (.int 12))) (.cons (.asg (.name 5) (.ite (.cmp .lt (.call f_law_parts (.cons (.ix (.ix (.var 5) (.cst (.int 1))) (.cst (.int 0))) .nil)) (.cst (.int 12))) (.tup (.cons (.ix (.var 5) (.cst (.int 0))) (.cons (.sl (.ix (.var 5) (.cst (.int 1))) .none (.some (.cst (.int 1)))) .nil))) (.tup (.cons (.ix (.var 5) (.cst (.int 0))) (.cons (.tup .nil) .nil))))) .nil) .nil) (.cons (.asg (.name 6) (.lst (.cons (.cst .non) (.cons (.cst .non) (.cons (.cst .non) (.cons (.tup (.cons (.cst (.str [116, 111, 112])) .nil)) (.cons (.tup (.cons (.cst (.str [117, 110, 100, 101, 114])) (.cons (.ix (.var 1) (.call f_law_take (.cons (.var 0) (.cons (.bi .len (.var 1)) .nil)))) .nil))) (.cons (.tup (.cons (.cst (.str [107, 105, 100])) (.cons (.call f_law_take (.cons (.var 0) (.cons (.cst (.int 3)) .nil))) .nil))) .nil)))))))) (.cons (.ret (.tup (.cons (.ix (.var 2) (.call f_law_take (.cons (.var 0) (.cons (.bi .len (.var 2)) .nil)))) (.cons (.ix (.var 6) (.call f_law_take (.cons (.var 0) (.cons (.cst (.int 6)) .nil)))) (.cons (.var 3) (.cons (.var 5) .nil)))))) .nil)))))))
/-- _law_grown(_law_box, _law_letters_here, _law_left, _law_deep) : 0 _law_box, 1 _law_letters_here, 2 _law_left, 3 _law_deep, 4 _law_kids, 5 _law_k -/
def l_law_grownb : ISs := (.cons (.ite (.and (.cmp .gt (.var 3) (.cst (.int 1))) (.cmp .gt (.ix (.var 2) (.cst (.int 0))) (.cst (.int 0)))) (.cons (.expr (.me1 .append (.var 4) (.call f_law_grown (.cons (.var 0) (.cons (.var 1) (.cons (.var 2) (.cons (.bin .sub (.var 3) (.cst (.int 1))) .nil))))))) .nil) .nil) .nil)
def l_law_grown : IS := .for_ (.name 5) (.rng1 (.call f_law_take (.cons (.var 0) (.cons (.cst (.int 4)) .nil)))) l_law_grownb
def b_law_grown : ISs := (.cons (.seti (.var 2) (.cst (.int 0)) (.bin .sub (.ix (.var 2) (.cst (.int 0))) (.cst (.int 1)))) (.cons (.asg (.name 4) (.lst .nil)) (.cons l_law_grown (.cons (.ret (.tup (.cons (.ix (.var 1) (.call f_law_take (.cons (.var 0) (.cons (.bi .len (.var 1)) .nil)))) (.cons (.bi .tuple (.var 4)) .nil)))) .nil))))
/-- need_book(book) : 0 book, 1 number, 2 rule -/
def l_need_bookb : ISs := (.cons (.ite (.or (.cmp .ge (.var 1) (.gl g_MOST_RULES)) (.not (.call f_is_rule (.cons (.var 2) .nil)))) (.cons (.rais1 c_BadBook n_number (.var 1)) .nil) .nil) .nil)
def l_need_book : IS := .for_ (.tup [1, 2]) (.enum (.var 0)) l_need_bookb
def b_need_book : ISs := (.cons l_need_book .nil)
/-- need_tree(tree) : 0 tree, 1 left, 2 many, 3 kids, 4 place, 5 part, 6 k -/
def c_need_treee : IE := (.tup (.cons (.bin .add (.var 4) (.tup (.cons (.var 6) .nil))) (.cons (.ix (.ix (.var 5) (.cst (.int 1))) (.var 6)) .nil)))
def c_need_tree : IE := .comp c_need_treee (.name 6) [6] (.rng1 (.bi .len (.ix (.var 5) (.cst (.int 1))))) .none
def l_need_treeb : ISs := (.cons (.asg (.tup [4, 5]) (.me0 .pop (.var 1))) (.cons (.asg (.name 2) (.bin .add (.var 2) (.cst (.int 1)))) (.cons (.ite (.or (.cmp .gt (.var 2) (.gl g_MOST_PLACES)) (.or (.cmp .ge (.bi .len (.var 4)) (.gl g_MOST_DEEP)) (.not (.call f_is_node (.cons (.var 5) .nil))))) (.cons (.rais1 c_BadTree n_place (.var 4)) .nil) .nil) (.cons (.asg (.name 3) c_need_tree) (.cons (.expr (.me1 .extend (.var 1) (.rev (.var 3)))) .nil)))))
def l_need_tree : IS := .whl (.cmp .ne (.var 1) (.lst .nil)) l_need_treeb
def b_need_tree : ISs := (.cons (.asg (.name 1) (.lst (.cons (.tup (.cons (.tup .nil) (.cons (.var 0) .nil))) .nil))) (.cons (.asg (.name 2) (.cst (.int 0))) (.cons l_need_tree .nil)))
/-- told_by(book, tree) : 0 book, 1 tree, 2 telling -/
def b_told_by : ISs := (.cons (.asg (.name 2) (.mk c_Telling (.cons (.var 0) (.cons (.var 1) .nil)))) (.cons (.expr (.om n_reach m_reach (.var 2) (.cons (.tup .nil) (.cons (.cst (.int 0)) .nil)))) (.cons (.ret (.var 2)) .nil)))
/-- origins_at(telling, place, state) : 0 telling, 1 place, 2 state, 3 number, 4 found, 5 left, 6 here, 7 build, 8 some, 9 within, 10 whence, 11 rule, 12 k -/
def c_origins_ate : IE := (.tup (.cons (.bin .add (.var 6) (.var 9)) (.cons (.var 10) (.cons (.var 11) .nil))))
def c_origins_at : IE := .comp c_origins_ate (.tup [9, 10, 11]) [9, 10, 11] (.it (.var 8)) .none
def c_origins_at2e : IE := (.tup (.cons (.bin .add (.var 6) (.tup (.cons (.var 12) .nil))) (.cons (.ix (.ix (.var 7) (.cst (.int 1))) (.var 12)) .nil)))
def c_origins_at2 : IE := .comp c_origins_at2e (.name 12) [12] (.rng1 (.bi .len (.ix (.var 7) (.cst (.int 1))))) .none
def l_origins_atb : ISs := (.cons (.asg (.tup [6, 7]) (.me0 .pop (.var 5))) (.cons (.ite (.cmp .eq (.ix (.var 7) (.cst (.int 0))) (.gl g_DO)) (.cons (.asg (.name 8) (.call f_origins_at (.cons (.var 0) (.cons (.bin .add (.var 1) (.ix (.var 7) (.cst (.int 2)))) (.cons (.ix (.var 7) (.cst (.int 1))) .nil))))) (.cons (.expr (.me1 .extend (.var 4) c_origins_at)) .nil)) (.cons (.expr (.me1 .append (.var 4) (.tup (.cons (.var 6) (.cons (.var 1) (.cons (.var 3) .nil)))))) (.cons (.expr (.me1 .extend (.var 5) (.rev c_origins_at2))) .nil))) .nil))
def l_origins_at : IS := .whl (.cmp .ne (.var 5) (.lst .nil)) l_origins_atb
def b_origins_at : ISs := (.cons (.asg (.name 3) (.om n_rule m_rule (.var 0) (.cons (.var 1) (.cons (.var 2) .nil)))) (.cons (.asg (.name 4) (.lst .nil)) (.cons (.asg (.name 5) (.lst (.cons (.tup (.cons (.tup .nil) (.cons (.ix (.ix (.fld (.var 0) n_book) (.var 3)) (.cst (.int 3))) .nil))) .nil))) (.cons l_origins_at (.cons (.ret (.var 4)) .nil)))))
/-- _law_labels(_law_build_here) : 0 _law_build_here, 1 _law_found, 2 _law_kid -/
def l_law_labelsb : ISs := (.cons (.asg (.name 1) (.bin .add (.var 1) (.call f_law_labels (.cons (.var 2) .nil)))) .nil)
def l_law_labels : IS := .for_ (.name 2) (.it (.ix (.var 0) (.cst (.int 1)))) l_law_labelsb
def b_law_labels : ISs := (.cons (.ite (.cmp .eq (.ix (.var 0) (.cst (.int 0))) (.cst (.str [100, 111]))) (.cons (.ret (.lst .nil)) .nil) .nil) (.cons (.asg (.name 1) (.lst (.cons (.ix (.var 0) (.cst (.int 0))) .nil))) (.cons l_law_labels (.cons (.ret (.var 1)) .nil))))
/-- _law_fitting(_law_book_here, _law_state, _law_place, _law_known) : 0 _law_book_here, 1 _law_state, 2 _law_place, 3 _law_known, 4 _law_found, 5 _law_number, 6 _law_is_there, 7 _law_mine, 8 _law_spot, 9 _law_pattern_here, 10 _law_build_here -/
def l_law_fittingb : ISs := (.cons (.asg (.tup [7, 8, 9, 10]) (.ix (.var 0) (.var 5))) (.cons (.asg (.name 6) (.or (.cmp .isN (.var 8) (.cst .non)) (.and (.cmp .eq (.ix (.var 8) (.cst (.int 0))) (.cst (.str [116, 111, 112]))) (.cmp .eq (.var 2) (.tup .nil))))) (.cons (.ite (.and (.cmp .notN (.var 8) (.cst .non)) (.cmp .eq (.ix (.var 8) (.cst (.int 0))) (.cst (.str [117, 110, 100, 101, 114])))) (.cons (.asg (.name 6) (.and (.cmp .ne (.var 2) (.tup .nil)) (.cmp .eq (.ix (.ix (.var 3) (.sl (.var 2) .none (.some (.cst (.int (-1)))))) (.cst (.int 0))) (.ix (.var 8) (.cst (.int 1)))))) .nil) .nil) (.cons (.ite (.and (.cmp .notN (.var 8) (.cst .non)) (.cmp .eq (.ix (.var 8) (.cst (.int 0))) (.cst (.str [107, 105, 100])))) (.cons (.asg (.name 6) (.and (.cmp .ne (.var 2) (.tup .nil)) (.cmp .eq (.ix (.var 2) (.cst (.int (-1)))) (.ix (.var 8) (.cst (.int 1)))))) .nil) .nil) (.cons (.ite (.and (.cmp .eq (.var 7) (.var 1)) (.and (.var 6) (.call f_law_fits (.cons (.var 9) (.cons (.ix (.var 3) (.var 2)) .nil))))) (.cons (.expr (.me1 .append (.var 4) (.var 5))) .nil) .nil) .nil)))))
def l_law_fitting : IS := .for_ (.name 5) (.rng1 (.bi .len (.var 0))) l_law_fittingb
def b_law_fitting : ISs := (.cons (.asg (.name 4) (.lst .nil)) (.cons l_law_fitting (.cons (.ret (.var 4)) .nil)))
/-- at_place(tree, place) : 0 tree, 1 place, 2 k -/
def l_at_placeb : ISs := (.cons (.ite (.or (.not (.isi (.var 2) .int)) (.or (.isi (.var 2) .bool) (.not (.cch .le .lt (.cst (.int 0)) (.var 2) (.bi .len (.ix (.var 0) (.cst (.int 1)))))))) (.cons (.rais0 c_BadPlace) .nil) .nil) (.cons (.asg (.name 0) (.ix (.ix (.var 0) (.cst (.int 1))) (.var 2))) .nil))
def l_at_place : IS := .for_ (.name 2) (.it (.var 1)) l_at_placeb
def b_at_place : ISs := (.cons l_at_place (.cons (.ret (.var 0)) .nil))
/-- _law_pattern(_law_box, _law_letters_here, _law_deep) : 0 _law_box, 1 _law_letters_here, 2 _law_deep, 3 _law_way, 4 _law_many, 5 _law_k -/
def c_law_patterne : IE := (.call f_law_pattern (.cons (.var 0) (.cons (.var 1) (.cons (.bin .sub (.var 2) (.cst (.int 1))) .nil))))
def c_law_pattern : IE := .comp c_law_patterne (.name 5) [5] (.rng1 (.var 4)) .none
def b_law_pattern : ISs := (.cons (.asg (.name 3) (.call f_law_take (.cons (.var 0) (.cons (.cst (.int 6)) .nil)))) (.cons (.ite (.or (.cmp .lt (.var 2) (.cst (.int 2))) (.cmp .lt (.var 3) (.cst (.int 2)))) (.cons (.ret (.ix (.lst (.cons (.tup (.cons (.cst (.str [97, 110, 121])) .nil)) (.cons (.tup (.cons (.cst (.str [97, 110, 121])) .nil)) (.cons (.tup (.cons (.cst (.str [108, 101, 97, 102])) .nil)) (.cons (.tup (.cons (.ix (.var 1) (.call f_law_take (.cons (.var 0) (.cons (.bi .len (.var 1)) .nil)))) (.cons (.tup .nil) .nil))) .nil))))) (.call f_law_take (.cons (.var 0) (.cons (.cst (.int 4)) .nil))))) .nil) .nil) (.cons (.asg (.name 4) (.call f_law_take (.cons (.var 0) (.cons (.cst (.int 4)) .nil)))) (.cons (.ret (.tup (.cons (.ix (.var 1) (.call f_law_take (.cons (.var 0) (.cons (.bi .len (.var 1)) .nil)))) (.cons (.bi .tuple c_law_pattern) .nil)))) .nil))))
/-- _law_parts(_law_part) : 0 _law_part, 1 _law_kid -/
def c_law_partse : IE := (.call f_law_parts (.cons (.var 1) .nil))
def c_law_parts : IE := .comp c_law_partse (.name 1) [1] (.it (.ix (.var 0) (.cst (.int 1)))) .none
def b_law_parts : ISs := (.cons (.ite (.or (.cmp .ne (.bi .len (.var 0)) (.cst (.int 2))) (.cmp .eq (.ix (.var 0) (.cst (.int 0))) (.cst (.str [100, 111])))) (.cons (.ret (.cst (.int 1))) .nil) .nil) (.cons (.ret (.bin .add (.cst (.int 1)) (.bi .sum c_law_parts))) .nil))
/-- _law_paths(_law_pattern_here) : 0 _law_pattern_here, 1 _law_found, 2 _law_k, 3 _law_j -/
def c_law_pathse : IE := (.tup (.cons (.var 2) (.cons (.var 3) .nil)))
def c_law_paths : IE := .comp c_law_pathse (.name 3) [3] (.rng1 (.bi .len (.ix (.ix (.ix (.var 0) (.cst (.int 1))) (.var 2)) (.cst (.int 1))))) .none
def l_law_pathsb : ISs := (.cons (.expr (.me1 .append (.var 1) (.tup (.cons (.var 2) .nil)))) (.cons (.ite (.cmp .eq (.bi .len (.ix (.ix (.var 0) (.cst (.int 1))) (.var 2))) (.cst (.int 2))) (.cons (.expr (.me1 .extend (.var 1) c_law_paths)) .nil) .nil) .nil))
def l_law_paths : IS := .for_ (.name 2) (.rng1 (.bi .len (.ix (.var 0) (.cst (.int 1))))) l_law_pathsb
def b_law_paths : ISs := (.cons (.asg (.name 1) (.lst .nil)) (.cons (.ite (.cmp .eq (.bi .len (.var 0)) (.cst (.int 2))) (.cons l_law_paths .nil) .nil) (.cons (.ret (.var 1)) .nil)))
/-- _law_build(_law_box, _law_letters_here, _law_states, _law_paths_here, _law_deep) : 0 _law_box, 1 _law_letters_here, 2 _law_states, 3 _law_paths_here, 4 _law_deep, 5 _law_many, 6 _law_kids, 7 _law_k -/
def c_law_builde : IE := (.call f_law_build (.cons (.var 0) (.cons (.var 1) (.cons (.var 2) (.cons (.var 3) (.cons (.bin .sub (.var 4) (.cst (.int 1))) .nil))))))
def c_law_build : IE := .comp c_law_builde (.name 7) [7] (.rng1 (.var 5)) .none
def b_law_build : ISs := (.cons (.ite (.and (.cmp .ne (.var 3) (.lst .nil)) (.cmp .gt (.call f_law_take (.cons (.var 0) (.cons (.cst (.int 3)) .nil))) (.cst (.int 0)))) (.cons (.ret (.tup (.cons (.cst (.str [100, 111])) (.cons (.ix (.var 2) (.call f_law_take (.cons (.var 0) (.cons (.bi .len (.var 2)) .nil)))) (.cons (.ix (.var 3) (.call f_law_take (.cons (.var 0) (.cons (.bi .len (.var 3)) .nil)))) .nil))))) .nil) .nil) (.cons (.asg (.name 5) (.bin .mul (.call f_law_take (.cons (.var 0) (.cons (.cst (.int 4)) .nil))) (.bi .int (.cmp .gt (.var 4) (.cst (.int 1)))))) (.cons (.asg (.name 6) c_law_build) (.cons (.ret (.tup (.cons (.ix (.var 1) (.call f_law_take (.cons (.var 0) (.cons (.bi .len (.var 1)) .nil)))) (.cons (.bi .tuple (.var 6)) .nil)))) .nil))))
/-- is_rule(rule) : 0 rule -/
def b_is_rule : ISs := (.cons (.ite (.or (.not (.isi (.var 0) .tup)) (.or (.cmp .ne (.bi .len (.var 0)) (.cst (.int 4))) (.or (.not (.call f_is_number (.cons (.ix (.var 0) (.cst (.int 0))) (.cons (.cst (.int 0)) (.cons (.gl g_MOST_STATE) .nil))))) (.not (.call f_is_spot (.cons (.ix (.var 0) (.cst (.int 1))) .nil)))))) (.cons (.ret (.cst (.bl false))) .nil) .nil) (.cons (.ite (.cmp .gt (.call f_pattern_parts (.cons (.ix (.var 0) (.cst (.int 2))) (.cons (.gl g_MOST_PATTERN_DEEP) .nil))) (.gl g_MOST_PARTS)) (.cons (.ret (.cst (.bl false))) .nil) .nil) (.cons (.ret (.cmp .le (.call f_build_parts (.cons (.ix (.var 0) (.cst (.int 3))) (.cons (.ix (.var 0) (.cst (.int 2))) (.cons (.gl g_MOST_BUILD_DEEP) .nil)))) (.gl g_MOST_BUILD))) .nil)))
/-- is_node(tree) : 0 tree -/
def b_is_node : ISs := (.cons (.ite (.or (.not (.isi (.var 0) .tup)) (.or (.cmp .ne (.bi .len (.var 0)) (.cst (.int 2))) (.not (.call f_is_label (.cons (.ix (.var 0) (.cst (.int 0))) .nil))))) (.cons (.ret (.cst (.bl false))) .nil) .nil) (.cons (.ret (.and (.isi (.ix (.var 0) (.cst (.int 1))) .tup) (.cmp .le (.bi .len (.ix (.var 0) (.cst (.int 1)))) (.gl g_MOST_KIDS)))) .nil))
/-- Telling.__init__(self, book, tree) : 0 self, 1 book, 2 tree -/
def b_Telling_init : ISs := (.cons (.setf (.var 0) n_book (.var 1)) (.cons (.setf (.var 0) n_tree (.var 2)) (.cons (.setf (.var 0) n_known (.dnew true)) (.cons (.setf (.var 0) n_sizes (.dnew true)) .nil))))
/-- Telling.reach(self, place, state) : 0 self, 1 place, 2 state, 3 number, 4 found, 5 build, 6 some, 7 do -/
def l_Telling_reachb : ISs := (.cons (.expr (.om n_reach m_reach (.var 0) (.cons (.bin .add (.var 1) (.ix (.var 7) (.cst (.int 2)))) (.cons (.ix (.var 7) (.cst (.int 1))) .nil)))) .nil)
def l_Telling_reach : IS := .for_ (.name 7) (.it (.var 6)) l_Telling_reachb
def c_Telling_reache : IE := (.var 7)
def c_Telling_reachi : IO := (.some (.cmp .isN (.ix (.fld (.var 0) n_known) (.tup (.cons (.bin .add (.var 1) (.ix (.var 7) (.cst (.int 2)))) (.cons (.ix (.var 7) (.cst (.int 1))) .nil)))) (.cst .non)))
def c_Telling_reach : IE := .comp c_Telling_reache (.name 7) [7] (.it (.var 6)) c_Telling_reachi
def b_Telling_reach : ISs := (.cons (.ite (.cmp .mem (.tup (.cons (.var 1) (.cons (.var 2) .nil))) (.fld (.var 0) n_known)) (.cons .retN .nil) .nil) (.cons (.asg (.name 3) (.om n_rule m_rule (.var 0) (.cons (.var 1) (.cons (.var 2) .nil)))) (.cons (.asg (.name 4) (.cst .non)) (.cons (.ite (.cmp .notN (.var 3) (.cst .non)) (.cons (.asg (.name 5) (.ix (.ix (.fld (.var 0) n_book) (.var 3)) (.cst (.int 3)))) (.cons (.asg (.name 6) (.call f_dos_of (.cons (.var 5) .nil))) (.cons l_Telling_reach (.cons (.ite (.cmp .eq c_Telling_reach (.lst .nil)) (.cons (.ite (.cmp .gt (.om n_parts m_parts (.var 0) (.cons (.var 5) (.cons (.var 1) .nil))) (.gl g_MOST_TOLD)) (.cons (.rais0 c_TooBig) .nil) .nil) (.cons (.asg (.name 4) (.om n_built m_built (.var 0) (.cons (.var 5) (.cons (.var 1) .nil)))) (.cons (.seti (.fld (.var 0) n_sizes) (.tup (.cons (.var 1) (.cons (.var 2) .nil))) (.om n_parts m_parts (.var 0) (.cons (.var 5) (.cons (.var 1) .nil)))) .nil))) .nil) .nil)))) .nil) (.cons (.seti (.fld (.var 0) n_known) (.tup (.cons (.var 1) (.cons (.var 2) .nil))) (.var 4)) .nil)))))
/-- Telling.rule(self, place, state) : 0 self, 1 place, 2 state, 3 some -/
def b_Telling_rule : ISs := (.cons (.asg (.name 3) (.call f_rules_at (.cons (.fld (.var 0) n_book) (.cons (.var 2) (.cons (.var 1) (.cons (.call f_at_place (.cons (.fld (.var 0) n_tree) (.cons (.var 1) .nil))) (.cons (.call f_above (.cons (.fld (.var 0) n_tree) (.cons (.var 1) .nil))) .nil))))))) (.cons (.ret (.ite (.cmp .ne (.var 3) (.lst .nil)) (.ix (.var 3) (.cst (.int 0))) (.cst .non))) .nil))
/-- _law_fits(_law_pattern_here, _law_tree_here) : 0 _law_pattern_here, 1 _law_tree_here, 2 _law_k -/
def c_law_fitse : IE := (.var 2)
def c_law_fitsi : IO := (.some (.not (.call f_law_fits (.cons (.ix (.ix (.var 0) (.cst (.int 1))) (.var 2)) (.cons (.ix (.ix (.var 1) (.cst (.int 1))) (.var 2)) .nil)))))
def c_law_fits : IE := .comp c_law_fitse (.name 2) [2] (.rng1 (.bi .len (.ix (.var 1) (.cst (.int 1))))) c_law_fitsi
def b_law_fits : ISs := (.cons (.ite (.cmp .eq (.bi .len (.var 0)) (.cst (.int 1))) (.cons (.ret (.or (.cmp .eq (.ix (.var 0) (.cst (.int 0))) (.cst (.str [97, 110, 121]))) (.cmp .eq (.ix (.var 1) (.cst (.int 1))) (.tup .nil)))) .nil) .nil) (.cons (.ite (.or (.cmp .ne (.ix (.var 0) (.cst (.int 0))) (.ix (.var 1) (.cst (.int 0)))) (.cmp .ne (.bi .len (.ix (.var 0) (.cst (.int 1)))) (.bi .len (.ix (.var 1) (.cst (.int 1)))))) (.cons (.ret (.cst (.bl false))) .nil) .nil) (.cons (.ret (.cmp .eq c_law_fits (.lst .nil))) .nil)))
/-- is_spot(spot) : 0 spot -/
def b_is_spot : ISs := (.cons (.ite (.or (.cmp .isN (.var 0) (.cst .non)) (.cmp .eq (.var 0) (.tup (.cons (.cst (.str [116, 111, 112])) .nil)))) (.cons (.ret (.cst (.bl true))) .nil) .nil) (.cons (.ite (.or (.not (.isi (.var 0) .tup)) (.cmp .ne (.bi .len (.var 0)) (.cst (.int 2)))) (.cons (.ret (.cst (.bl false))) .nil) .nil) (.cons (.ret (.or (.and (.cmp .eq (.ix (.var 0) (.cst (.int 0))) (.cst (.str [117, 110, 100, 101, 114]))) (.call f_is_label (.cons (.ix (.var 0) (.cst (.int 1))) .nil))) (.and (.cmp .eq (.ix (.var 0) (.cst (.int 0))) (.cst (.str [107, 105, 100]))) (.call f_is_number (.cons (.ix (.var 0) (.cst (.int 1))) (.cons (.cst (.int 0)) (.cons (.bin .sub (.gl g_MOST_KIDS) (.cst (.int 1))) .nil))))))) .nil)))
/-- is_number(part, low, high) : 0 part, 1 low, 2 high -/
def b_is_number : ISs := (.cons (.ret (.and (.isi (.var 0) .int) (.and (.not (.isi (.var 0) .bool)) (.cch .le .le (.var 1) (.var 0) (.var 2))))) .nil)
/-- pattern_parts(pattern, deep) : 0 pattern, 1 deep, 2 kid -/
def c_pattern_partse : IE := (.call f_pattern_parts (.cons (.var 2) (.cons (.bin .sub (.var 1) (.cst (.int 1))) .nil)))
def c_pattern_parts : IE := .comp c_pattern_partse (.name 2) [2] (.it (.ix (.var 0) (.cst (.int 1)))) .none
def b_pattern_parts : ISs := (.cons (.ite (.cmp .lt (.var 1) (.cst (.int 1))) (.cons (.ret (.bin .add (.gl g_MOST_PARTS) (.cst (.int 1)))) .nil) .nil) (.cons (.ite (.cmp .mem (.var 0) (.tup (.cons (.gl g_ANY) (.cons (.gl g_LEAF) .nil)))) (.cons (.ret (.cst (.int 1))) .nil) .nil) (.cons (.ite (.or (.not (.isi (.var 0) .tup)) (.or (.cmp .ne (.bi .len (.var 0)) (.cst (.int 2))) (.not (.call f_is_label (.cons (.ix (.var 0) (.cst (.int 0))) .nil))))) (.cons (.ret (.bin .add (.gl g_MOST_PARTS) (.cst (.int 1)))) .nil) .nil) (.cons (.ite (.or (.not (.isi (.ix (.var 0) (.cst (.int 1))) .tup)) (.cmp .gt (.bi .len (.ix (.var 0) (.cst (.int 1)))) (.gl g_MOST_KIDS))) (.cons (.ret (.bin .add (.gl g_MOST_PARTS) (.cst (.int 1)))) .nil) .nil) (.cons (.ret (.bin .add (.cst (.int 1)) (.bi .sum c_pattern_parts))) .nil)))))
/-- build_parts(build, pattern, deep) : 0 build, 1 pattern, 2 deep, 3 good, 4 kid -/
def c_build_partse : IE := (.call f_build_parts (.cons (.var 4) (.cons (.var 1) (.cons (.bin .sub (.var 2) (.cst (.int 1))) .nil))))
def c_build_parts : IE := .comp c_build_partse (.name 4) [4] (.it (.ix (.var 0) (.cst (.int 1)))) .none
def b_build_parts : ISs := (.cons (.ite (.or (.cmp .lt (.var 2) (.cst (.int 1))) (.or (.not (.isi (.var 0) .tup)) (.cmp .eq (.bi .len (.var 0)) (.cst (.int 0))))) (.cons (.ret (.bin .add (.gl g_MOST_BUILD) (.cst (.int 1)))) .nil) .nil) (.cons (.ite (.cmp .eq (.ix (.var 0) (.cst (.int 0))) (.gl g_DO)) (.cons (.asg (.name 3) (.and (.cmp .eq (.bi .len (.var 0)) (.cst (.int 3))) (.and (.call f_is_number (.cons (.ix (.var 0) (.cst (.int 1))) (.cons (.cst (.int 0)) (.cons (.gl g_MOST_STATE) .nil)))) (.call f_has_path (.cons (.var 1) (.cons (.ix (.var 0) (.cst (.int 2))) .nil)))))) (.cons (.ret (.ite (.var 3) (.cst (.int 1)) (.bin .add (.gl g_MOST_BUILD) (.cst (.int 1))))) .nil)) .nil) (.cons (.ite (.or (.cmp .ne (.bi .len (.var 0)) (.cst (.int 2))) (.or (.not (.call f_is_label (.cons (.ix (.var 0) (.cst (.int 0))) .nil))) (.or (.not (.isi (.ix (.var 0) (.cst (.int 1))) .tup)) (.cmp .gt (.bi .len (.ix (.var 0) (.cst (.int 1)))) (.gl g_MOST_KIDS))))) (.cons (.ret (.bin .add (.gl g_MOST_BUILD) (.cst (.int 1)))) .nil) .nil) (.cons (.ret (.bin .add (.cst (.int 1)) (.bi .sum c_build_parts))) .nil))))
/-- is_label(part) : 0 part -/
def b_is_label : ISs := (.cons (.ret (.and (.isi (.var 0) .str) (.and (.cmp .eq (.bi .len (.var 0)) (.cst (.int 1))) (.cmp .mem (.var 0) (.gl g_LABELS))))) .nil)
/-- dos_of(build) : 0 build, 1 found, 2 kid -/
def l_dos_ofb : ISs := (.cons (.expr (.me1 .extend (.var 1) (.call f_dos_of (.cons (.var 2) .nil)))) .nil)
def l_dos_of : IS := .for_ (.name 2) (.it (.ix (.var 0) (.cst (.int 1)))) l_dos_ofb
def b_dos_of : ISs := (.cons (.ite (.cmp .eq (.ix (.var 0) (.cst (.int 0))) (.gl g_DO)) (.cons (.ret (.lst (.cons (.var 0) .nil))) .nil) .nil) (.cons (.asg (.name 1) (.lst .nil)) (.cons l_dos_of (.cons (.ret (.var 1)) .nil))))
/-- Telling.parts(self, build, place) : 0 self, 1 build, 2 place, 3 kid -/
def c_Telling_partse : IE := (.om n_parts m_parts (.var 0) (.cons (.var 3) (.cons (.var 2) .nil)))
def c_Telling_parts : IE := .comp c_Telling_partse (.name 3) [3] (.it (.ix (.var 1) (.cst (.int 1)))) .none
def b_Telling_parts : ISs := (.cons (.ite (.cmp .eq (.ix (.var 1) (.cst (.int 0))) (.gl g_DO)) (.cons (.ret (.ix (.fld (.var 0) n_sizes) (.tup (.cons (.bin .add (.var 2) (.ix (.var 1) (.cst (.int 2)))) (.cons (.ix (.var 1) (.cst (.int 1))) .nil))))) .nil) .nil) (.cons (.ret (.bin .add (.cst (.int 1)) (.bi .sum c_Telling_parts))) .nil))
/-- Telling.built(self, build, place) : 0 self, 1 build, 2 place, 3 kid -/
def c_Telling_builte : IE := (.om n_built m_built (.var 0) (.cons (.var 3) (.cons (.var 2) .nil)))
def c_Telling_built : IE := .comp c_Telling_builte (.name 3) [3] (.it (.ix (.var 1) (.cst (.int 1)))) .none
def b_Telling_built : ISs := (.cons (.ite (.cmp .eq (.ix (.var 1) (.cst (.int 0))) (.gl g_DO)) (.cons (.ret (.ix (.fld (.var 0) n_known) (.tup (.cons (.bin .add (.var 2) (.ix (.var 1) (.cst (.int 2)))) (.cons (.ix (.var 1) (.cst (.int 1))) .nil))))) .nil) .nil) (.cons (.ret (.tup (.cons (.ix (.var 1) (.cst (.int 0))) (.cons (.bi .tuple c_Telling_built) .nil)))) .nil))
/-- rules_at(book, state, place, tree, label) : 0 book, 1 state, 2 place, 3 tree, 4 label, 5 found, 6 number, 7 rule -/
def l_rules_atb : ISs := (.cons (.ite (.and (.cmp .eq (.ix (.var 7) (.cst (.int 0))) (.var 1)) (.and (.call f_is_at (.cons (.ix (.var 7) (.cst (.int 1))) (.cons (.var 2) (.cons (.var 4) .nil)))) (.call f_fits (.cons (.ix (.var 7) (.cst (.int 2))) (.cons (.var 3) .nil))))) (.cons (.expr (.me1 .append (.var 5) (.var 6))) .nil) .nil) .nil)
def l_rules_at : IS := .for_ (.tup [6, 7]) (.enum (.var 0)) l_rules_atb
def b_rules_at : ISs := (.cons (.asg (.name 5) (.lst .nil)) (.cons l_rules_at (.cons (.ret (.var 5)) .nil)))
/-- above(tree, place) : 0 tree, 1 place -/
def b_above : ISs := (.cons (.ret (.ite (.cmp .ne (.var 1) (.tup .nil)) (.ix (.call f_at_place (.cons (.var 0) (.cons (.sl (.var 1) .none (.some (.cst (.int (-1))))) .nil))) (.cst (.int 0))) (.cst .non))) .nil)
/-- has_path(pattern, path) : 0 pattern, 1 path, 2 k -/
def l_has_pathb : ISs := (.cons (.ite (.or (.cmp .mem (.var 0) (.tup (.cons (.gl g_ANY) (.cons (.gl g_LEAF) .nil)))) (.not (.call f_is_number (.cons (.var 2) (.cons (.cst (.int 0)) (.cons (.bin .sub (.bi .len (.ix (.var 0) (.cst (.int 1)))) (.cst (.int 1))) .nil)))))) (.cons (.ret (.cst (.bl false))) .nil) .nil) (.cons (.asg (.name 0) (.ix (.ix (.var 0) (.cst (.int 1))) (.var 2))) .nil))
def l_has_path : IS := .for_ (.name 2) (.it (.var 1)) l_has_pathb
def b_has_path : ISs := (.cons (.ite (.or (.not (.isi (.var 1) .tup)) (.not (.cch .le .le (.cst (.int 1)) (.bi .len (.var 1)) (.cst (.int 2))))) (.cons (.ret (.cst (.bl false))) .nil) .nil) (.cons l_has_path (.cons (.ret (.cst (.bl true))) .nil)))
/-- fits(pattern, tree) : 0 pattern, 1 tree, 2 k -/
def c_fitse : IE := (.var 2)
def c_fitsi : IO := (.some (.not (.call f_fits (.cons (.ix (.ix (.var 0) (.cst (.int 1))) (.var 2)) (.cons (.ix (.ix (.var 1) (.cst (.int 1))) (.var 2)) .nil)))))
def c_fits : IE := .comp c_fitse (.name 2) [2] (.rng1 (.bi .len (.ix (.var 1) (.cst (.int 1))))) c_fitsi
def b_fits : ISs := (.cons (.ite (.cmp .eq (.var 0) (.gl g_ANY)) (.cons (.ret (.cst (.bl true))) .nil) .nil) (.cons (.ite (.cmp .eq (.var 0) (.gl g_LEAF)) (.cons (.ret (.cmp .eq (.ix (.var 1) (.cst (.int 1))) (.tup .nil))) .nil) .nil) (.cons (.ite (.or (.cmp .ne (.ix (.var 0) (.cst (.int 0))) (.ix (.var 1) (.cst (.int 0)))) (.cmp .ne (.bi .len (.ix (.var 0) (.cst (.int 1)))) (.bi .len (.ix (.var 1) (.cst (.int 1)))))) (.cons (.ret (.cst (.bl false))) .nil) .nil) (.cons (.ret (.cmp .eq c_fits (.lst .nil))) .nil))))
/-- is_at(spot, place, label) : 0 spot, 1 place, 2 label -/
def b_is_at : ISs := (.cons (.ite (.cmp .isN (.var 0) (.cst .non)) (.cons (.ret (.cst (.bl true))) .nil) .nil) (.cons (.ite (.cmp .eq (.ix (.var 0) (.cst (.int 0))) (.cst (.str [116, 111, 112]))) (.cons (.ret (.cmp .eq (.var 1) (.tup .nil))) .nil) .nil) (.cons (.ite (.cmp .eq (.ix (.var 0) (.cst (.int 0))) (.cst (.str [117, 110, 100, 101, 114]))) (.cons (.ret (.cmp .eq (.var 2) (.ix (.var 0) (.cst (.int 1))))) .nil) .nil) (.cons (.ret (.and (.cmp .ne (.var 1) (.tup .nil)) (.cmp .eq (.ix (.var 1) (.cst (.int (-1)))) (.ix (.var 0) (.cst (.int 1)))))) .nil))))
def fns : List FnIR := [⟨1, 14, b_law, true⟩,
  ⟨1, 3, b_law_begun, false⟩,
  ⟨1, 3, b_law_letters, false⟩,
  ⟨2, 7, b_law_book, false⟩,
  ⟨2, 3, b_law_tree, false⟩,
  ⟨2, 2, b_told, false⟩,
  ⟨2, 3, b_origins, false⟩,
  ⟨4, 12, b_law_right, false⟩,
  ⟨1, 5, b_law_places, false⟩,
  ⟨3, 7, b_comes_of, false⟩,
  ⟨2, 3, b_law_take, false⟩,
  ⟨3, 7, b_law_rule, false⟩,
  ⟨4, 6, b_law_grown, false⟩,
  ⟨1, 3, b_need_book, false⟩,
  ⟨1, 7, b_need_tree, false⟩,
  ⟨2, 3, b_told_by, false⟩,
  ⟨3, 13, b_origins_at, false⟩,
  ⟨1, 3, b_law_labels, false⟩,
  ⟨4, 11, b_law_fitting, false⟩,
  ⟨2, 3, b_at_place, false⟩,
  ⟨3, 6, b_law_pattern, false⟩,
  ⟨1, 2, b_law_parts, false⟩,
  ⟨1, 4, b_law_paths, false⟩,
  ⟨5, 8, b_law_build, false⟩,
  ⟨1, 1, b_is_rule, false⟩,
  ⟨1, 1, b_is_node, false⟩,
  ⟨3, 3, b_Telling_init, false⟩,
  ⟨3, 8, b_Telling_reach, false⟩,
  ⟨3, 4, b_Telling_rule, false⟩,
  ⟨2, 3, b_law_fits, false⟩,
  ⟨1, 1, b_is_spot, false⟩,
  ⟨3, 3, b_is_number, false⟩,
  ⟨2, 3, b_pattern_parts, false⟩,
  ⟨3, 5, b_build_parts, false⟩,
  ⟨1, 1, b_is_label, false⟩,
  ⟨1, 3, b_dos_of, false⟩,
  ⟨3, 4, b_Telling_parts, false⟩,
  ⟨3, 4, b_Telling_built, false⟩,
  ⟨5, 8, b_rules_at, false⟩,
  ⟨2, 2, b_above, false⟩,
  ⟨2, 3, b_has_path, false⟩,
  ⟨2, 3, b_fits, false⟩,
  ⟨3, 3, b_is_at, false⟩]
def ini : Nat → Option Nat := fun c => match c with | 0 => some f_Telling_init | _ => none
def meth : Nat → Nat → Option Nat := fun c m => match c, m with | 0, 0 => some f_Telling_reach | 0, 1 => some f_Telling_rule | 0, 2 => some f_Telling_parts | 0, 3 => some f_Telling_built | _, _ => none
def tw : Nat → Option (Tx × Option PySem.Str) := fun c => match c with | 1 => some ([66, 97, 100, 66, 111, 111, 107], some n_number) | 2 => some ([66, 97, 100, 84, 114, 101, 101], some n_place) | 3 => some ([66, 97, 100, 80, 108, 97, 99, 101], none) | 4 => some ([84, 111, 111, 66, 105, 103], none) | _ => none
def pr : Prog := ⟨fns, ini, meth, tw⟩
@[simp] theorem tw_BadBook : pr.tw 1 = some ([66, 97, 100, 66, 111, 111, 107], some n_number) := (rfl)
@[simp] theorem tw_BadTree : pr.tw 2 = some ([66, 97, 100, 84, 114, 101, 101], some n_place) := (rfl)
@[simp] theorem tw_BadPlace : pr.tw 3 = some ([66, 97, 100, 80, 108, 97, 99, 101], none) := (rfl)
@[simp] theorem tw_TooBig : pr.tw 4 = some ([84, 111, 111, 66, 105, 103], none) := (rfl)
@[simp] theorem ini_Telling : pr.ini 0 = some f_Telling_init := (rfl)
@[simp] theorem mh_Telling_reach : pr.meth 0 m_reach = some f_Telling_reach := (rfl)
@[simp] theorem mh_Telling_rule : pr.meth 0 m_rule = some f_Telling_rule := (rfl)
@[simp] theorem mh_Telling_parts : pr.meth 0 m_parts = some f_Telling_parts := (rfl)
@[simp] theorem mh_Telling_built : pr.meth 0 m_built = some f_Telling_built := (rfl)
theorem u_law (F k : Nat) (a0 : D) (st : Sto) : pr.call F (k + 2) f_law [a0] st = finish st (runB (evSs (pr.cl F k) F b_law [some a0, none, none, none, none, none, none, none, none, none, none, none, none, none] st)) := call_eq2 pr F k (fi := ⟨1, 14, b_law, true⟩) rfl rfl
theorem u_law_begun (F k : Nat) (a0 : D) (st : Sto) : pr.call F (k + 1) f_law_begun [a0] st = finish st (runB (evSs (pr.cl F k) F b_law_begun [some a0, none, none] st)) := call_eq pr F k (fi := ⟨1, 3, b_law_begun, false⟩) rfl rfl
theorem u_law_letters (F k : Nat) (a0 : D) (st : Sto) : pr.call F (k + 1) f_law_letters [a0] st = finish st (runB (evSs (pr.cl F k) F b_law_letters [some a0, none, none] st)) := call_eq pr F k (fi := ⟨1, 3, b_law_letters, false⟩) rfl rfl
theorem u_law_book (F k : Nat) (a0 a1 : D) (st : Sto) : pr.call F (k + 1) f_law_book [a0, a1] st = finish st (runB (evSs (pr.cl F k) F b_law_book [some a0, some a1, none, none, none, none, none] st)) := call_eq pr F k (fi := ⟨2, 7, b_law_book, false⟩) rfl rfl
theorem u_law_tree (F k : Nat) (a0 a1 : D) (st : Sto) : pr.call F (k + 1) f_law_tree [a0, a1] st = finish st (runB (evSs (pr.cl F k) F b_law_tree [some a0, some a1, none] st)) := call_eq pr F k (fi := ⟨2, 3, b_law_tree, false⟩) rfl rfl
theorem u_told (F k : Nat) (a0 a1 : D) (st : Sto) : pr.call F (k + 1) f_told [a0, a1] st = finish st (runB (evSs (pr.cl F k) F b_told [some a0, some a1] st)) := call_eq pr F k (fi := ⟨2, 2, b_told, false⟩) rfl rfl
theorem u_origins (F k : Nat) (a0 a1 : D) (st : Sto) : pr.call F (k + 1) f_origins [a0, a1] st = finish st (runB (evSs (pr.cl F k) F b_origins [some a0, some a1, none] st)) := call_eq pr F k (fi := ⟨2, 3, b_origins, false⟩) rfl rfl
theorem u_law_right (F k : Nat) (a0 a1 a2 a3 : D) (st : Sto) : pr.call F (k + 1) f_law_right [a0, a1, a2, a3] st = finish st (runB (evSs (pr.cl F k) F b_law_right [some a0, some a1, some a2, some a3, none, none, none, none, none, none, none, none] st)) := call_eq pr F k (fi := ⟨4, 12, b_law_right, false⟩) rfl rfl
theorem u_law_places (F k : Nat) (a0 : D) (st : Sto) : pr.call F (k + 1) f_law_places [a0] st = finish st (runB (evSs (pr.cl F k) F b_law_places [some a0, none, none, none, none] st)) := call_eq pr F k (fi := ⟨1, 5, b_law_places, false⟩) rfl rfl
theorem u_comes_of (F k : Nat) (a0 a1 a2 : D) (st : Sto) : pr.call F (k + 1) f_comes_of [a0, a1, a2] st = finish st (runB (evSs (pr.cl F k) F b_comes_of [some a0, some a1, some a2, none, none, none, none] st)) := call_eq pr F k (fi := ⟨3, 7, b_comes_of, false⟩) rfl rfl
theorem u_law_take (F k : Nat) (a0 a1 : D) (st : Sto) : pr.call F (k + 1) f_law_take [a0, a1] st = finish st (runB (evSs (pr.cl F k) F b_law_take [some a0, some a1, none] st)) := call_eq pr F k (fi := ⟨2, 3, b_law_take, false⟩) rfl rfl
theorem u_law_rule (F k : Nat) (a0 a1 a2 : D) (st : Sto) : pr.call F (k + 1) f_law_rule [a0, a1, a2] st = finish st (runB (evSs (pr.cl F k) F b_law_rule [some a0, some a1, some a2, none, none, none, none] st)) := call_eq pr F k (fi := ⟨3, 7, b_law_rule, false⟩) rfl rfl
theorem u_law_grown (F k : Nat) (a0 a1 a2 a3 : D) (st : Sto) : pr.call F (k + 1) f_law_grown [a0, a1, a2, a3] st = finish st (runB (evSs (pr.cl F k) F b_law_grown [some a0, some a1, some a2, some a3, none, none] st)) := call_eq pr F k (fi := ⟨4, 6, b_law_grown, false⟩) rfl rfl
theorem u_need_book (F k : Nat) (a0 : D) (st : Sto) : pr.call F (k + 1) f_need_book [a0] st = finish st (runB (evSs (pr.cl F k) F b_need_book [some a0, none, none] st)) := call_eq pr F k (fi := ⟨1, 3, b_need_book, false⟩) rfl rfl
theorem u_need_tree (F k : Nat) (a0 : D) (st : Sto) : pr.call F (k + 1) f_need_tree [a0] st = finish st (runB (evSs (pr.cl F k) F b_need_tree [some a0, none, none, none, none, none, none] st)) := call_eq pr F k (fi := ⟨1, 7, b_need_tree, false⟩) rfl rfl
theorem u_told_by (F k : Nat) (a0 a1 : D) (st : Sto) : pr.call F (k + 1) f_told_by [a0, a1] st = finish st (runB (evSs (pr.cl F k) F b_told_by [some a0, some a1, none] st)) := call_eq pr F k (fi := ⟨2, 3, b_told_by, false⟩) rfl rfl
theorem u_origins_at (F k : Nat) (a0 a1 a2 : D) (st : Sto) : pr.call F (k + 1) f_origins_at [a0, a1, a2] st = finish st (runB (evSs (pr.cl F k) F b_origins_at [some a0, some a1, some a2, none, none, none, none, none, none, none, none, none, none] st)) := call_eq pr F k (fi := ⟨3, 13, b_origins_at, false⟩) rfl rfl
theorem u_law_labels (F k : Nat) (a0 : D) (st : Sto) : pr.call F (k + 1) f_law_labels [a0] st = finish st (runB (evSs (pr.cl F k) F b_law_labels [some a0, none, none] st)) := call_eq pr F k (fi := ⟨1, 3, b_law_labels, false⟩) rfl rfl
theorem u_law_fitting (F k : Nat) (a0 a1 a2 a3 : D) (st : Sto) : pr.call F (k + 1) f_law_fitting [a0, a1, a2, a3] st = finish st (runB (evSs (pr.cl F k) F b_law_fitting [some a0, some a1, some a2, some a3, none, none, none, none, none, none, none] st)) := call_eq pr F k (fi := ⟨4, 11, b_law_fitting, false⟩) rfl rfl
theorem u_at_place (F k : Nat) (a0 a1 : D) (st : Sto) : pr.call F (k + 1) f_at_place [a0, a1] st = finish st (runB (evSs (pr.cl F k) F b_at_place [some a0, some a1, none] st)) := call_eq pr F k (fi := ⟨2, 3, b_at_place, false⟩) rfl rfl
theorem u_law_pattern (F k : Nat) (a0 a1 a2 : D) (st : Sto) : pr.call F (k + 1) f_law_pattern [a0, a1, a2] st = finish st (runB (evSs (pr.cl F k) F b_law_pattern [some a0, some a1, some a2, none, none, none] st)) := call_eq pr F k (fi := ⟨3, 6, b_law_pattern, false⟩) rfl rfl
theorem u_law_parts (F k : Nat) (a0 : D) (st : Sto) : pr.call F (k + 1) f_law_parts [a0] st = finish st (runB (evSs (pr.cl F k) F b_law_parts [some a0, none] st)) := call_eq pr F k (fi := ⟨1, 2, b_law_parts, false⟩) rfl rfl
theorem u_law_paths (F k : Nat) (a0 : D) (st : Sto) : pr.call F (k + 1) f_law_paths [a0] st = finish st (runB (evSs (pr.cl F k) F b_law_paths [some a0, none, none, none] st)) := call_eq pr F k (fi := ⟨1, 4, b_law_paths, false⟩) rfl rfl
theorem u_law_build (F k : Nat) (a0 a1 a2 a3 a4 : D) (st : Sto) : pr.call F (k + 1) f_law_build [a0, a1, a2, a3, a4] st = finish st (runB (evSs (pr.cl F k) F b_law_build [some a0, some a1, some a2, some a3, some a4, none, none, none] st)) := call_eq pr F k (fi := ⟨5, 8, b_law_build, false⟩) rfl rfl
theorem u_is_rule (F k : Nat) (a0 : D) (st : Sto) : pr.call F (k + 1) f_is_rule [a0] st = finish st (runB (evSs (pr.cl F k) F b_is_rule [some a0] st)) := call_eq pr F k (fi := ⟨1, 1, b_is_rule, false⟩) rfl rfl
theorem u_is_node (F k : Nat) (a0 : D) (st : Sto) : pr.call F (k + 1) f_is_node [a0] st = finish st (runB (evSs (pr.cl F k) F b_is_node [some a0] st)) := call_eq pr F k (fi := ⟨1, 1, b_is_node, false⟩) rfl rfl
theorem u_Telling_init (F k : Nat) (a0 a1 a2 : D) (st : Sto) : pr.call F (k + 1) f_Telling_init [a0, a1, a2] st = finish st (runB (evSs (pr.cl F k) F b_Telling_init [some a0, some a1, some a2] st)) := call_eq pr F k (fi := ⟨3, 3, b_Telling_init, false⟩) rfl rfl
theorem u_Telling_reach (F k : Nat) (a0 a1 a2 : D) (st : Sto) : pr.call F (k + 1) f_Telling_reach [a0, a1, a2] st = finish st (runB (evSs (pr.cl F k) F b_Telling_reach [some a0, some a1, some a2, none, none, none, none, none] st)) := call_eq pr F k (fi := ⟨3, 8, b_Telling_reach, false⟩) rfl rfl
theorem u_Telling_rule (F k : Nat) (a0 a1 a2 : D) (st : Sto) : pr.call F (k + 1) f_Telling_rule [a0, a1, a2] st = finish st (runB (evSs (pr.cl F k) F b_Telling_rule [some a0, some a1, some a2, none] st)) := call_eq pr F k (fi := ⟨3, 4, b_Telling_rule, false⟩) rfl rfl
theorem u_law_fits (F k : Nat) (a0 a1 : D) (st : Sto) : pr.call F (k + 1) f_law_fits [a0, a1] st = finish st (runB (evSs (pr.cl F k) F b_law_fits [some a0, some a1, none] st)) := call_eq pr F k (fi := ⟨2, 3, b_law_fits, false⟩) rfl rfl
theorem u_is_spot (F k : Nat) (a0 : D) (st : Sto) : pr.call F (k + 1) f_is_spot [a0] st = finish st (runB (evSs (pr.cl F k) F b_is_spot [some a0] st)) := call_eq pr F k (fi := ⟨1, 1, b_is_spot, false⟩) rfl rfl
theorem u_is_number (F k : Nat) (a0 a1 a2 : D) (st : Sto) : pr.call F (k + 1) f_is_number [a0, a1, a2] st = finish st (runB (evSs (pr.cl F k) F b_is_number [some a0, some a1, some a2] st)) := call_eq pr F k (fi := ⟨3, 3, b_is_number, false⟩) rfl rfl
theorem u_pattern_parts (F k : Nat) (a0 a1 : D) (st : Sto) : pr.call F (k + 1) f_pattern_parts [a0, a1] st = finish st (runB (evSs (pr.cl F k) F b_pattern_parts [some a0, some a1, none] st)) := call_eq pr F k (fi := ⟨2, 3, b_pattern_parts, false⟩) rfl rfl
theorem u_build_parts (F k : Nat) (a0 a1 a2 : D) (st : Sto) : pr.call F (k + 1) f_build_parts [a0, a1, a2] st = finish st (runB (evSs (pr.cl F k) F b_build_parts [some a0, some a1, some a2, none, none] st)) := call_eq pr F k (fi := ⟨3, 5, b_build_parts, false⟩) rfl rfl
theorem u_is_label (F k : Nat) (a0 : D) (st : Sto) : pr.call F (k + 1) f_is_label [a0] st = finish st (runB (evSs (pr.cl F k) F b_is_label [some a0] st)) := call_eq pr F k (fi := ⟨1, 1, b_is_label, false⟩) rfl rfl
theorem u_dos_of (F k : Nat) (a0 : D) (st : Sto) : pr.call F (k + 1) f_dos_of [a0] st = finish st (runB (evSs (pr.cl F k) F b_dos_of [some a0, none, none] st)) := call_eq pr F k (fi := ⟨1, 3, b_dos_of, false⟩) rfl rfl
theorem u_Telling_parts (F k : Nat) (a0 a1 a2 : D) (st : Sto) : pr.call F (k + 1) f_Telling_parts [a0, a1, a2] st = finish st (runB (evSs (pr.cl F k) F b_Telling_parts [some a0, some a1, some a2, none] st)) := call_eq pr F k (fi := ⟨3, 4, b_Telling_parts, false⟩) rfl rfl
theorem u_Telling_built (F k : Nat) (a0 a1 a2 : D) (st : Sto) : pr.call F (k + 1) f_Telling_built [a0, a1, a2] st = finish st (runB (evSs (pr.cl F k) F b_Telling_built [some a0, some a1, some a2, none] st)) := call_eq pr F k (fi := ⟨3, 4, b_Telling_built, false⟩) rfl rfl
theorem u_rules_at (F k : Nat) (a0 a1 a2 a3 a4 : D) (st : Sto) : pr.call F (k + 1) f_rules_at [a0, a1, a2, a3, a4] st = finish st (runB (evSs (pr.cl F k) F b_rules_at [some a0, some a1, some a2, some a3, some a4, none, none, none] st)) := call_eq pr F k (fi := ⟨5, 8, b_rules_at, false⟩) rfl rfl
theorem u_above (F k : Nat) (a0 a1 : D) (st : Sto) : pr.call F (k + 1) f_above [a0, a1] st = finish st (runB (evSs (pr.cl F k) F b_above [some a0, some a1] st)) := call_eq pr F k (fi := ⟨2, 2, b_above, false⟩) rfl rfl
theorem u_has_path (F k : Nat) (a0 a1 : D) (st : Sto) : pr.call F (k + 1) f_has_path [a0, a1] st = finish st (runB (evSs (pr.cl F k) F b_has_path [some a0, some a1, none] st)) := call_eq pr F k (fi := ⟨2, 3, b_has_path, false⟩) rfl rfl
theorem u_fits (F k : Nat) (a0 a1 : D) (st : Sto) : pr.call F (k + 1) f_fits [a0, a1] st = finish st (runB (evSs (pr.cl F k) F b_fits [some a0, some a1, none] st)) := call_eq pr F k (fi := ⟨2, 3, b_fits, false⟩) rfl rfl
theorem u_is_at (F k : Nat) (a0 a1 a2 : D) (st : Sto) : pr.call F (k + 1) f_is_at [a0, a1, a2] st = finish st (runB (evSs (pr.cl F k) F b_is_at [some a0, some a1, some a2] st)) := call_eq pr F k (fi := ⟨3, 3, b_is_at, false⟩) rfl rfl
end Law
namespace Law
open Z
theorem take_spec (F k : Nat) (β : Bx) {m : Int} (h0 : 0 < m) (h1 : m < 1000) :
    ∃ r β', 0 ≤ r ∧ r < m ∧ ∀ rest, pr.call F (k + 1) f_law_take [.loc 0, .int m] (bx β rest) = .ok (.int r) (bx β' rest) := by
  obtain ⟨ns, s, few⟩ := β
  have h2 : m < 1073741824 := by omega
  cases ns with
  | nil =>
    refine ⟨s * 48271 % 2147483647 / 7 % m, ⟨[], s * 48271 % 2147483647, by simp⟩, Int.emod_nonneg _ (by omega), Int.emod_lt_of_pos _ h0, fun rest => ?_⟩
    rw [u_law_take]
    simp [b_law_take, h0, h2, fin_bx]
  | cons n ns =>
    have f2 : ns.length + 1 ≤ 63 := few
    by_cases c : n / m = 0 ∨ n / m = -1
    · refine ⟨n % m, ⟨ns, s, Nat.le_of_succ_le few⟩, Int.emod_nonneg _ (by omega), Int.emod_lt_of_pos _ h0, fun rest => ?_⟩
      rw [u_law_take]
      rcases c with c | c <;> simp [b_law_take, h0, h2, c, (by omega : ns.length ≤ 99999), fin_bx]
    · refine ⟨n % m, ⟨n / m :: ns, s, few⟩, Int.emod_nonneg _ (by omega), Int.emod_lt_of_pos _ h0, fun rest => ?_⟩
      rw [not_or] at c
      rw [u_law_take]
      simp [b_law_take, h0, h2, c, fin_bx]
/-- the box is made -/
theorem begun_spec (F k : Nat) {ns : List Int} (hl : ns.length ≤ 63) : ∃ β : Bx, pr.call F (k + 1) f_law_begun [.fl (ns.map D.int)] [] = .ok (.loc 0) (bx β []) := by
  obtain ⟨ρ', st', h1, rfl, s, v, rfl⟩ := for_inv (w := ⟨ns.map D.int, none⟩) (tg := .name 2) (b := evSs (pr.cl F k) F l_law_begunb) (ρ := [some (.fl (ns.map D.int)), some (.int 0), none]) (st := []) ns D.int
    (fun _ ρ st => st = [] ∧ ∃ (z : Int) (v : Option D), ρ = [some (.fl (ns.map D.int)), some (.int z), v]) rfl (fun _ _ _ _ => rfl)
    (by
      intro i a ρ s ha ⟨e1, z, v, e2⟩
      subst e1 e2
      refine ⟨_, _, _, rfl, .inl ?_, rfl, (z * 48271 + a * 69621 + 11) % 2147483647, some (.int a), rfl⟩
      simp [l_law_begunb]) ⟨rfl, 0, none, rfl⟩
  refine ⟨⟨ns, s * (if decide (2 < (ns.length : Int)) then 1 else 0), hl⟩, ?_⟩
  rw [u_law_begun]
  have h64 : (-18446744073709551616 < (if (2 : Int) < (ns.length : Int) then (1 : Int) else 0) ∧ (if (2 : Int) < (ns.length : Int) then (1 : Int) else 0) < 18446744073709551616) := by split <;> decide
  simp [b_law_begun, l_law_begun, h1, h64]
  rw [fin_begun]
theorem is_number_spec (F k : Nat) {n lo hi : Int} {st : Sto} (h1 : lo ≤ n) (h2 : n ≤ hi) : pr.call F (k + 1) f_is_number [.int n, .int lo, .int hi] st = .ok (.bl true) st := by
  rw [u_is_number]; simp [b_is_number, h1, h2]
theorem is_label_spec (F k : Nat) {c : Nat} {st : Sto} (hc : 97 ≤ c ∧ c ≤ 102) : pr.call F (k + 1) f_is_label [.str [c]] st = .ok (.bl true) st := by
  rw [u_is_label]; simp [b_is_label]; omega
theorem is_node_spec (F k : Nat) {t : T} {st : Sto} (ht : okT t) : pr.call F (k + 2) f_is_node [dT t] st = .ok (.bl true) st := by
  cases t with
  | node c ks =>
    rw [okT] at ht
    obtain ⟨h1, h2, h3⟩ := ht
    have hl : (dTs ks).length = ks.length := by rw [dTs_map]; simp
    have e := is_label_spec F k (st := st) h1
    rw [u_is_node, dT]
    simp [b_is_node, e, hl, (by omega : (ks.length : Int) ≤ 3)]
end Law
namespace Law
open Z
/-- a place yet to be looked at -/
def item (q : List Nat × T) : D := .tup [dPa q.1, dT q.2]
def szq : List (List Nat × T) → Nat
  | [] => 0
  | q :: r => sz q.2 + szq r
theorem szq_app (a b : List (List Nat × T)) : szq (a ++ b) = szq a + szq b := by
  induction a with
  | nil => simp [szq]
  | cons x a ih => rw [List.cons_append, szq, szq, ih]; omega
theorem szq_len (a : List (List Nat × T)) : a.length ≤ szq a := by
  induction a with
  | nil => simp [szq]
  | cons x a ih => rw [szq, List.length_cons]; have := sz_pos x.2; omega
def kidsq (p : List Nat) (ks : List T) : List (List Nat × T) := (List.range ks.length).map fun (k : Nat) => (p ++ [k], ks.getD k (.node 0 []))
theorem range_get (ks : List T) : (List.range ks.length).map (fun k => ks.getD k (.node 0 [])) = ks := by
  refine List.ext_getElem (by simp) fun i h1 h2 => ?_
  rw [List.getElem_map, List.getElem_range, List.getD_eq_getElem?_getD, List.getElem?_eq_getElem h2]; rfl
theorem szq_sum (a : List (List Nat × T)) : szq a = szs (a.map (·.2)) := by
  induction a with
  | nil => simp [szq, szs]
  | cons x a ih => rw [szq, List.map_cons, szs, ih]
theorem kidsq_sz (p : List Nat) (ks : List T) : szq (kidsq p ks) = szs ks := by
  rw [szq_sum, kidsq, List.map_map]
  congr 1
  exact range_get ks
theorem kidsq_mem {p : List Nat} {ks : List T} {q : List Nat × T} (h : q ∈ kidsq p ks) : q.2 ∈ ks ∧ q.1.length = p.length + 1 := by
  unfold kidsq at h
  obtain ⟨k, h1, rfl⟩ := List.mem_map.mp h
  rw [List.mem_range] at h1
  refine ⟨?_, by simp⟩
  simp only [List.getD_eq_getElem?_getD, List.getElem?_eq_getElem h1]
  exact List.getElem_mem h1
theorem kids_comp (F k : Nat) {st : Sto} {p : List Nat} {c : Nat} {ks : List T} (hp : p.length ≤ 50) (hk : ks.length ≤ 100) {v0 v1 v2 v3 v6 : Option D} :
    ev (pr.cl F k) c_need_tree [v0, v1, v2, v3, some (dPa p), some (dT (.node c ks)), v6] st = .ok (.loc st.length) (st ++ [.lst ((kidsq p ks).map item)]) := by
  have hl : (dTs ks).length = ks.length := by rw [dTs_map]; simp
  have hi : iLim (ks.length : Int) := by unfold iLim; omega
  unfold kidsq
  rw [List.map_map]
  refine comp_rng (n := ks.length) ?_ (by show _ ≤ 100000; omega) ?_
  · rw [dT]; simp [hl, hi]
  · intro i hi
    have hx : L2.atI (dTs ks) (i : Int) = some (dT (ks.getD i (.node 0 []))) := atI_nat (by rw [dTs_map, List.getElem?_map, List.getD_eq_getElem?_getD, List.getElem?_eq_getElem hi]; rfl)
    rw [dT]
    simp [c_need_treee, hx, item, dPa, (by omega : p.length ≤ 99999)]
theorem need_loop {F k : Nat} (t0 : D) (st : Sto) : ∀ (fuel : Nat) (q : List (List Nat × T)) (many : Nat) (v3 v4 v5 : Option D) (g : Sto),
    szq q < fuel → many + szq q ≤ 60 → (∀ x ∈ q, okT x.2 ∧ x.1.length + ht x.2 ≤ 12) →
    ∃ ρ' g', loopW (evT (pr.cl F (k + 2)) (.cmp .ne (.var 1) (.lst .nil))) (evSs (pr.cl F (k + 2)) F l_need_treeb) fuel [some t0, some (.loc st.length), some (.int many), v3, v4, v5, none] (st ++ .lst (q.map item).reverse :: g) = .ok .nx ρ' (st ++ g') := by
  intro fuel
  induction fuel with
  | zero => intro q many v3 v4 v5 g h; omega
  | succ fuel ih =>
    intro q many v3 v4 v5 g hf hm hq
    have test : ev (pr.cl F (k + 2)) (.cmp .ne (.var 1) (.lst .nil)) [some t0, some (.loc st.length), some (.int many), v3, v4, v5, none] (st ++ .lst (q.map item).reverse :: g) = .ok (.bl (!q.isEmpty)) (st ++ .lst (q.map item).reverse :: (g ++ [.lst []])) := by
      simp
    cases q with
    | nil => exact ⟨_, _, w_stop test⟩
    | cons x q =>
      obtain ⟨p, t⟩ := x
      cases t with
      | node c ks =>
        obtain ⟨hok, hht⟩ := hq _ List.mem_cons_self
        have hok0 := hok
        have hs1 : szq ((p, T.node c ks) :: q) = 1 + szs ks + szq q := by rw [szq]; simp only; rw [sz]
        rw [hs1] at hf hm
        rw [okT] at hok
        obtain ⟨hc, hk3, hoks⟩ := hok
        have hht' : p.length + (1 + hts ks) ≤ 12 := by rw [← ht.eq_1]; exact hht
        have hn := is_node_spec F k (st := st ++ .lst (q.map item).reverse :: (g ++ [.lst []])) hok0
        have hlen := szq_len q
        have hkl : (kidsq p ks).length = ks.length := by simp [kidsq]
        have hcm := kids_comp F (k + 2) (p := p) (c := c) (ks := ks) (st := st ++ .lst (q.map item).reverse :: (g ++ [.lst []])) (by omega) (by omega) (v0 := some t0) (v1 := some (.loc st.length)) (v2 := some (.int ((many : Int) + 1))) (v3 := v3) (v6 := none)
        have h1 : ¬ 60 < (many : Int) + 1 := by omega
        have h2 : ¬ 12 ≤ (p.length : Int) := by omega
        simp only [dPa] at hcm
        have hb : evSs (pr.cl F (k + 2)) F l_need_treeb [some t0, some (.loc st.length), some (.int many), v3, v4, v5, none] (st ++ .lst (((p, T.node c ks) :: q).map item).reverse :: (g ++ [.lst []])) = .ok .nx [some t0, some (.loc st.length), some (.int (many + 1)), some (.loc (st.length + (g.length + 2))), some (dPa p), some (dT (.node c ks)), none] (st ++ .lst ((kidsq p ks ++ q).map item).reverse :: (g ++ [.lst [], .lst ((kidsq p ks).map item), .lst ((kidsq p ks).map item).reverse])) := by
          simp [l_need_treeb, item, hn, h1, h2, dPa]
          simp [hcm, hkl, (by omega : q.length + ks.length ≤ 100000)]
        obtain ⟨ρ', g', e⟩ := ih (kidsq p ks ++ q) (many + 1) (some (.loc (st.length + (g.length + 2)))) (some (dPa p)) (some (dT (.node c ks))) (g ++ [.lst [], .lst ((kidsq p ks).map item), .lst ((kidsq p ks).map item).reverse])
          (by rw [szq_app, kidsq_sz]; omega) (by rw [szq_app, kidsq_sz]; omega)
          (by
            intro x hx
            rcases List.mem_append.mp hx with hx | hx
            · have h := kidsq_mem hx
              exact ⟨okTs_mem hoks h.1, by have := hts_le h.1; omega⟩
            · exact hq _ (List.mem_cons_of_mem _ hx))
        exact ⟨ρ', g', w_turn test hb e⟩
theorem need_tree_spec (F k : Nat) {t : T} {st : Sto} (hF : 61 < F) (ok : okT t) (hs : sz t ≤ 60) (hd : ht t ≤ 12) : pr.call F (k + 3) f_need_tree [dT t] st = .ok .non st := by
  have q1 : szq [([], t)] = sz t := by simp [szq]
  obtain ⟨ρ', g', e⟩ := need_loop (F := F) (k := k) (dT t) st F [([], t)] 0 none none none [] (by omega) (by omega) (by
      intro x hx
      simp only [List.mem_cons, List.not_mem_nil, or_false] at hx
      subst hx; exact ⟨ok, by simpa using hd⟩)
  have e : loopW (evT (pr.cl F (k + 2)) (.cmp .ne (.var 1) (.lst .nil))) (evSs (pr.cl F (k + 2)) F l_need_treeb) F [some (dT t), some (.loc st.length), some (.int 0), none, none, none, none] (st ++ [.lst [.tup [.tup [], dT t]]]) = .ok .nx ρ' (st ++ g') := e
  rw [u_need_tree]
  simp [b_need_tree, l_need_tree, e]
end Law
namespace Law
open Z
/-- letters -/
structure okL (L : Tx) : Prop where
  pos : 1 ≤ L.length
  few : L.length ≤ 6
  ok : ∀ x ∈ L, 97 ≤ x ∧ x ≤ 102
theorem take_letter (F k : Nat) (β : Bx) {L : Tx} (h : okL L) : ∃ c r β', (97 ≤ c ∧ c ≤ 102) ∧ c ∈ L ∧ L2.atI L r = some c ∧ ∀ rest, pr.call F (k + 1) f_law_take [.loc 0, .int L.length] (bx β rest) = .ok (.int r) (bx β' rest) := by
  obtain ⟨r, β', h0, h1, e⟩ := take_spec F k β (m := (L.length : Int)) (by have := h.pos; omega) (by have := h.few; omega)
  obtain ⟨c, hc, hat⟩ := take_int h0 h1
  exact ⟨c, r, β', h.ok c hc, hc, hat, e⟩
theorem getset {st : Sto} {l : Nat} {c c' : Cell} (h : st[l]? = some c) : (st.set l c')[l]? = some c' := set_here h
theorem grown_spec (F : Nat) {L : Tx} (hL : okL L) : ∀ (k deep : Nat) (β : Bx) (n : Int), deep ≤ k → 1 ≤ deep → 1 ≤ n → n ≤ 60 →
    ∃ t β' n', okT t ∧ ht t ≤ deep ∧ (sz t : Int) + n' = n ∧ 0 ≤ n' ∧ ∀ rest l, rest[l]? = some (.lst [.int n]) → pr.call F (k + 2) f_law_grown [.loc 0, .str L, .loc (l + 2), .int deep] (bx β rest) = .ok (dT t) (bx β' (rest.set l (.lst [.int n']))) := by
  intro k
  induction k with
  | zero => intro deep β n h1 h2; omega
  | succ k ih =>
    intro deep β n hdk hd1 hn1 hn60
    -- the kids
    have loop : ∀ (xs : List D) (β : Bx) (n : Int) (ks : List T), ks.length + xs.length ≤ 10 → 0 ≤ n → n ≤ 60 → ∃ ks' β' n', okTs ks' ∧ hts ks' + 1 ≤ deep ∧ ks'.length ≤ xs.length ∧ (szs ks' : Int) + n' = n ∧ 0 ≤ n' ∧
        ∀ (w : Wk) rest l v, w.l = none → rest[l]? = some (.lst [.int n]) → ∃ v', loopF w (.name 5) (evSs (pr.cl F (k + 2)) F l_law_grownb) xs [some (.loc 0), some (.str L), some (.loc (l + 2)), some (.int deep), some (.loc (rest.length + 2)), v] (bx β (rest ++ [.lst (dTs ks)])) =
          .ok .nx [some (.loc 0), some (.str L), some (.loc (l + 2)), some (.int deep), some (.loc (rest.length + 2)), v'] (bx β' (rest.set l (.lst [.int n']) ++ [.lst (dTs (ks ++ ks'))])) := by
      intro xs
      induction xs with
      | nil =>
        intro β n ks _ hn0 hn60
        refine ⟨[], β, n, trivial, by rw [hts]; omega, Nat.le_refl _, by rw [szs]; simp, hn0, fun w rest l v hw hl => ⟨v, ?_⟩⟩
        rw [loop_nil (by unfold Wk.stays; rw [hw]), List.append_nil, set_same hl]
      | cons x xs ihx =>
        intro β n ks hlen hn0 hn60
        by_cases c : 1 < deep ∧ 0 < n
        · obtain ⟨t, β1, n1, ot, hht, hsz, hn1, e⟩ := ih (deep - 1) β n (by omega) (by omega) (by omega) hn60
          have hz := sz_pos t
          obtain ⟨ks', β', n', o1, o2, o3, o4, o5, e'⟩ := ihx β1 n1 (ks ++ [t]) (by simp at hlen ⊢; omega) hn1 (by omega)
          refine ⟨t :: ks', β', n', ⟨ot, o1⟩, by rw [hts]; omega, by simp; omega, by rw [szs]; omega, o5, fun w rest l v hw hl => ?_⟩
          have hll := lt_of_at hl
          obtain ⟨v', e2⟩ := e' w (rest.set l (.lst [.int n1])) l (some x) hw (getset hl)
          refine ⟨v', ?_⟩
          have e1 := e (rest ++ [.lst (dTs ks)]) l (app_at _ hl)
          rw [List.set_append_left _ _ hll] at e1
          have hc1 : (1 : Int) < deep := by omega
          rw [show ((deep - 1 : Nat) : Int) = (deep : Int) - 1 by omega] at e1
          rw [List.length_set] at e2
          rw [List.set_set] at e2
          rw [show ks ++ t :: ks' = ks ++ [t] ++ ks' by simp, ← e2]
          have hlk : (dTs ks).length < 100000 := by rw [dTs_map, List.length_map]; simp at hlen; omega
          have h3 := ends_0 (st := rest.set l (.lst [.int n1])) (l := [.lst (dTs ks)]) (c := .lst (dTs ks ++ [dT t]))
          have h4 := end_0 (st := rest.set l (.lst [.int n1])) (l := [.lst (dTs ks)])
          rw [List.length_set] at h3 h4
          refine loop_cons (by unfold Wk.stays; rw [hw]) rfl ?_ rfl
          simp [l_law_grownb, app_at _ hl, hc1, c.2, e1, hlk, h3, h4, dTs_app, dTs]
        · obtain ⟨ks', β', n', o1, o2, o3, o4, o5, e'⟩ := ihx β n ks (by simp at hlen ⊢; omega) hn0 hn60
          refine ⟨ks', β', n', o1, o2, by simp; omega, o4, o5, fun w rest l v hw hl => ?_⟩
          obtain ⟨v', e2⟩ := e' w rest l (some x) hw hl
          refine ⟨v', ?_⟩
          refine loop_cons (by unfold Wk.stays; rw [hw]) rfl ?_ e2
          by_cases c1 : 1 < deep
          · have c2 : ¬ 0 < n := fun z => c ⟨c1, z⟩
            have hc1 : (1 : Int) < deep := by omega
            simp [l_law_grownb, app_at _ hl, hc1, c2]
          · have hc1 : ¬ (1 : Int) < deep := by omega
            simp [l_law_grownb, app_at _ hl, hc1]
    obtain ⟨r, β1, r0, r1, e1⟩ := take_spec F (k + 1) β (m := 4) (by decide) (by decide)
    obtain ⟨m, rfl⟩ := Int.eq_ofNat_of_zero_le r0
    obtain ⟨ks, β2, n2, o1, o2, o3, o4, o5, e2⟩ := loop (rngW 0 m).xs β1 (n - 1) [] (by rw [show (rngW 0 m).xs.length = m by simp [rngW]]; simp; omega) (by omega) (by omega)
    obtain ⟨c, r3, β3, hc, hcL, hat, e3⟩ := take_letter F (k + 1) β2 hL
    rw [show (rngW 0 m).xs.length = m by simp [rngW]] at o3
    refine ⟨.node c ks, β3, n2, ⟨hc, by omega, o1⟩, by rw [ht]; omega, by rw [sz]; omega, o5, fun rest l hl => ?_⟩
    have hll := lt_of_at hl
    obtain ⟨v', e4⟩ := e2 (rngW 0 m) (rest.set l (.lst [.int (n - 1)])) l none rfl (getset hl)
    rw [List.length_set, List.set_set] at e4
    rw [u_law_grown]
    have hi : iLim (m : Int) := by unfold iLim; omega
    have hLl : L.length ≤ 100000 := by have := hL.few; omega
    have h4 := end_0 (st := rest.set l (.lst [.int n2])) (l := [.lst (dTs ks)])
    rw [List.length_set] at h4
    have h5 := getset (c' := .lst [.int n2]) hl
    have e5 : pr.call F (k + 2) f_law_take [.loc 0, .int L.length] (bx β2 (rest.set l (.lst [.int n2]) ++ [.lst (dTs ks)])) = _ := e3 _
    rw [List.nil_append] at e4
    simp [b_law_grown, l_law_grown, hl, e1, hi]
    rw [show dTs [] = [] by rw [dTs]] at e4
    rw [e4]
    simp [hLl, e5, hat, h4]
    rw [fin_bxs (by simp [clC])]
    · rw [dT]
    · simp [dTs_cl]
end Law
namespace Law
open Z
theorem tree_spec (F k : Nat) {L : Tx} (hL : okL L) (β : Bx) : ∃ t β', okT t ∧ ht t ≤ 12 ∧ sz t ≤ 60 ∧ ∀ rest, pr.call F (k + 15) f_law_tree [.loc 0, .str L] (bx β rest) = .ok (dT t) (bx β' rest) := by
  obtain ⟨r, β1, h0, h1, e1⟩ := take_spec F (k + 13) β (m := 4) (by decide) (by decide)
  obtain ⟨r2, β2, g0, g1, e2⟩ := take_spec F (k + 13) β1 (m := 2) (by decide) (by decide)
  obtain ⟨n, hn, hn1, hn6⟩ : ∃ n : Nat, L2.atI [D.int 1, D.int 6, D.int 14, D.int 60] r = some (.int n) ∧ 1 ≤ n ∧ n ≤ 60 := by
    have : r = 0 ∨ r = 1 ∨ r = 2 ∨ r = 3 := by omega
    rcases this with rfl | rfl | rfl | rfl
    · exact ⟨1, by simp, by decide, by decide⟩
    · exact ⟨6, by simp, by decide, by decide⟩
    · exact ⟨14, by simp, by decide, by decide⟩
    · exact ⟨60, by simp, by decide, by decide⟩
  obtain ⟨d, hd, hd1, hd12⟩ : ∃ d : Nat, L2.atI [D.int 4, D.int 12] r2 = some (.int d) ∧ 1 ≤ d ∧ d ≤ 12 := by
    have : r2 = 0 ∨ r2 = 1 := by omega
    rcases this with rfl | rfl
    · exact ⟨4, by simp, by decide, by decide⟩
    · exact ⟨12, by simp, by decide, by decide⟩
  obtain ⟨t, β3, n', o1, o2, o3, o4, e3⟩ := grown_spec F hL (k + 12) d β2 n (by omega) hd1 (by omega) (by omega)
  refine ⟨t, β3, o1, by omega, by omega, fun rest => ?_⟩
  have e4 := e3 (rest ++ [.lst [.int 1, .int 6, .int 14, .int 60], .lst [.int n], .lst [.int 4, .int 12]]) (rest.length + 1) (by simp)
  rw [u_law_tree]
  simp [b_law_tree, e1, e2, hn, hd]
  simp at e4
  rw [show rest.length + 3 = rest.length + 1 + 2 by omega, e4]
  simp [fin_bx, dT_cl]
theorem eraseIdx_map {α β : Type} (f : α → β) : ∀ (l : List α) (i : Nat), (l.map f).eraseIdx i = (l.eraseIdx i).map f
  | [], _ => rfl
  | _ :: _, 0 => rfl
  | x :: l, i + 1 => by rw [List.map_cons, List.eraseIdx_cons_succ, List.eraseIdx_cons_succ, List.map_cons, eraseIdx_map f l i]
abbrev ltr (c : Nat) : D := .str [c]
theorem letters_spec (F k : Nat) (β : Bx) : ∃ L β', okL L ∧ ∀ rest, pr.call F (k + 2) f_law_letters [.loc 0] (bx β rest) = .ok (.str L) (bx β' rest) := by
  obtain ⟨r, β1, h0, h1, e1⟩ := take_spec F k β (m := 4) (by decide) (by decide)
  obtain ⟨n, hn, hn1, hn6⟩ : ∃ n : Nat, L2.atI [D.int 1, D.int 2, D.int 3, D.int 6] r = some (.int n) ∧ 1 ≤ n ∧ n ≤ 6 := by
    have : r = 0 ∨ r = 1 ∨ r = 2 ∨ r = 3 := by omega
    rcases this with rfl | rfl | rfl | rfl
    · exact ⟨1, by simp, by decide, by decide⟩
    · exact ⟨2, by simp, by decide, by decide⟩
    · exact ⟨3, by simp, by decide, by decide⟩
    · exact ⟨6, by simp, by decide, by decide⟩
  have turns : ∀ (xs : List D) (β : Bx) (cs : List Nat), cs.length ≤ 6 → xs.length ≤ cs.length → (∀ x ∈ cs, 97 ≤ x ∧ x ≤ 102) → ∃ (ls : List Nat) (β' : Bx) (cs' : List Nat), ls.length = xs.length ∧ (∀ x ∈ ls, 97 ≤ x ∧ x ≤ 102) ∧
      ∀ (w : Wk) rest g, w.l = none → compL w (turnC (pr.cl F (k + 1)) (.name 2) [2] .none c_law_letterse [some (.loc 0), some (.loc (rest.length + 2)), none]) xs (bx β (rest ++ .lst (cs.map ltr) :: g)) = .ok (ls.map ltr) (bx β' (rest ++ .lst (cs'.map ltr) :: g)) := by
    intro xs
    induction xs with
    | nil => exact fun β cs _ _ _ => ⟨[], β, cs, rfl, (fun x hx => nomatch hx), fun w rest g hw => compL_nil (stays_w hw)⟩
    | cons x xs ih =>
      intro β cs hc hl ho
      simp only [List.length_cons] at hl
      obtain ⟨q, β1, h0, h1, e1⟩ := take_spec F k β (m := (cs.length : Int)) (by omega) (by omega)
      obtain ⟨i, rfl⟩ := Int.eq_ofNat_of_zero_le h0
      have hi : i < cs.length := by omega
      obtain ⟨ls, β2, cs', l1, l2, l3⟩ := ih β1 (cs.eraseIdx i) (by rw [List.length_eraseIdx, if_pos hi]; omega) (by rw [List.length_eraseIdx, if_pos hi]; omega) (fun x hx => ho x (List.mem_of_mem_eraseIdx hx))
      refine ⟨cs[i] :: ls, β2, cs', by simp [l1], fun x hx => ?_, fun w rest g hw => ?_⟩
      · rcases List.mem_cons.mp hx with rfl | hx
        · exact ho _ (List.getElem_mem hi)
        · exact l2 x hx
      · refine compL_cons (stays_w hw) ?_ (l3 w rest g hw)
        have hx : L2.ixN cs.length (i : Int) = some i := ixN_nat hi
        simp [c_law_letterse, e1, hx, hi, eraseIdx_map, (by omega : cs.length ≤ 100000)]
  obtain ⟨ls, β2, cs', l1, l2, l3⟩ := turns (rngW 0 n).xs β1 [97, 98, 99, 100, 101, 102] (by simp) (by rw [rng_len]; simp; omega) (by intro x hx; simp at hx; omega)
  rw [rng_len] at l1
  refine ⟨ls, β2, ⟨by omega, by omega, l2⟩, fun rest => ?_⟩
  have hi : iLim (n : Int) := by unfold iLim; omega
  have hc := comp_ok (C := pr.cl F (k + 1)) (e := c_law_letterse) (it := .rng1 (.ix (.lst (.cons (.cst (.int 1)) (.cons (.cst (.int 2)) (.cons (.cst (.int 3)) (.cons (.cst (.int 6)) .nil))))) (.call f_law_take (.cons (.var 0) (.cons (.cst (.int 4)) .nil))))) (st := bx β (rest ++ [.lst ([97, 98, 99, 100, 101, 102].map ltr)])) (by simp [e1, hn, hi]) (l3 _ rest [.lst [.int 1, .int 2, .int 3, .int 6]] rfl) (by rw [List.length_map]; show _ ≤ 100000; omega)
  have hjoin : ∀ l : List Nat, joinT [] (l.map fun c => [c]) = l := by
    intro l
    induction l with
    | nil => rfl
    | cons x l ih =>
      cases l with
      | nil => rfl
      | cons y l => rw [List.map_cons, List.map_cons, joinT, ← List.map_cons (f := fun c => [c]), ih]; rfl
  have hst : strsD (ls.map ltr) = some (ls.map fun c => [c]) := by
    have := strsD_map (ls.map fun c => [c])
    rwa [List.map_map] at this
  have hc' : ev (pr.cl F (k + 1)) c_law_letters [some (.loc 0), some (.loc (rest.length + 2)), none] (bx β (rest ++ [.lst [.str [97], .str [98], .str [99], .str [100], .str [101], .str [102]]])) = _ := hc
  have hsum : ((ls.map fun c => [c]).map List.length).sum = ls.length := by
    clear hst hjoin hc hc' l3 l2 l1
    induction ls with
    | nil => rfl
    | cons x l ih => rw [List.map_cons, List.map_cons, List.sum_cons, ih]; simp; omega
  rw [u_law_letters]
  simp [b_law_letters]
  rw [hc']
  simp [hst, -List.map_map, hsum, hjoin, (by omega : ls.length ≤ 100000), fin_bx]
end Law
namespace Law
open Z
theorem take_nat (F k : Nat) (β : Bx) (m : Nat) (h0 : 0 < m) (h1 : m < 1000) :
    ∃ (r : Nat) (β' : Bx), r < m ∧ ∀ rest, pr.call F (k + 1) f_law_take [.loc 0, .int (m : Int)] (bx β rest) = .ok (.int (r : Int)) (bx β' rest) := by
  obtain ⟨r, β', g0, g1, e⟩ := take_spec F k β (m := (m : Int)) (by omega) (by omega)
  obtain ⟨n, rfl⟩ := Int.eq_ofNat_of_zero_le g0
  exact ⟨n, β', by omega, e⟩
/-! ### the drawing of patterns -/
theorem pattern_spec (F : Nat) {L : Tx} (hL : okL L) : ∀ (k deep : Nat) (β : Bx), deep ≤ k → 1 ≤ deep → deep ≤ 3 →
    ∃ p β', okP p ∧ htP p ≤ deep ∧ ∀ rest, pr.call F (k + 2) f_law_pattern [.loc 0, .str L, .int deep] (bx β rest) = .ok (dP p) (bx β' rest) := by
  intro k
  induction k with
  | zero => intro deep β h1 h2; omega
  | succ k ih =>
    intro deep β hdk hd1 hd3
    obtain ⟨way, β1, hw, e1⟩ := take_nat F (k + 1) β 6 (by decide) (by decide)
    have e1 : ∀ rest, pr.call F (k + 2) f_law_take [.loc 0, .int 6] (bx β rest) = _ := e1
    have hLl : L.length ≤ 100000 := by have := hL.few; omega
    by_cases c : deep < 2 ∨ way < 2
    · obtain ⟨a, ra, β2, ha, _, hat, e2⟩ := take_letter F (k + 1) β1 hL
      obtain ⟨r, β3, hr, e3⟩ := take_nat F (k + 1) β2 4 (by decide) (by decide)
      have e3 : ∀ rest, pr.call F (k + 2) f_law_take [.loc 0, .int 4] (bx β2 rest) = _ := e3
      have hc : (deep : Int) < 2 ∨ (way : Int) < 2 := by omega
      have go : ∀ p : Pt, L2.atI [D.tup [.str [97, 110, 121]], D.tup [.str [97, 110, 121]], D.tup [.str [108, 101, 97, 102]], D.tup [.str [a], .tup []]] (r : Int) = some (dP p) → clD 0 (dP p) = true →
          ∀ rest, pr.call F (k + 3) f_law_pattern [.loc 0, .str L, .int deep] (bx β rest) = .ok (dP p) (bx β3 rest) := fun p hp hcl rest => by
        rw [u_law_pattern]
        by_cases c1 : (deep : Int) < 2
        · simp [b_law_pattern, e1, e2, e3, c1, hLl, hat, hp]
          rw [fin_bx hcl]
        · have c2 : (way : Int) < 2 := hc.resolve_left c1
          simp [b_law_pattern, e1, e2, e3, c1, c2, hLl, hat, hp]
          rw [fin_bx hcl]
      have : r = 0 ∨ r = 1 ∨ r = 2 ∨ r = 3 := by omega
      rcases this with rfl | rfl | rfl | rfl
      · exact ⟨.any, β3, trivial, by rw [htP]; omega, go .any (by simp [dP]) (by simp [dP])⟩
      · exact ⟨.any, β3, trivial, by rw [htP]; omega, go .any (by simp [dP]) (by simp [dP])⟩
      · exact ⟨.leaf, β3, trivial, by rw [htP]; omega, go .leaf (by simp [dP]) (by simp [dP])⟩
      · exact ⟨.node a [], β3, ⟨ha, by simp, trivial⟩, by rw [htP, htPs]; omega, go (.node a []) (by simp [dP, dPs]) (by simp [dP, dPs])⟩
    · obtain ⟨c1, c2⟩ := not_or.mp c
      obtain ⟨m, β2, hm, e2⟩ := take_nat F (k + 1) β1 4 (by decide) (by decide)
      have e2 : ∀ rest, pr.call F (k + 2) f_law_take [.loc 0, .int 4] (bx β1 rest) = _ := e2
      obtain ⟨a, ra, β3, ha, _, hat, e3⟩ := take_letter F (k + 1) β2 hL
      have turns : ∀ (xs : List D) (β : Bx), ∃ (ks : List Pt) (β' : Bx), okPs ks ∧ htPs ks + 1 ≤ deep ∧ ks.length = xs.length ∧ ∀ (w : Wk) rest, w.l = none →
          compL w (turnC (pr.cl F (k + 2)) (.name 5) [5] .none c_law_patterne [some (.loc 0), some (.str L), some (.int deep), some (.int way), some (.int m), none]) xs (bx β rest) = .ok (ks.map dP) (bx β' rest) := by
        intro xs
        induction xs with
        | nil => exact fun β => ⟨[], β, trivial, by rw [htPs]; omega, rfl, fun w rest hw => compL_nil (stays_w hw)⟩
        | cons x xs ihx =>
          intro β
          obtain ⟨p, β1, o1, o2, e1⟩ := ih (deep - 1) β (by omega) (by omega) (by omega)
          obtain ⟨ks, β2, k1, k2, k3, k4⟩ := ihx β1
          refine ⟨p :: ks, β2, ⟨o1, k1⟩, by rw [htPs]; omega, by simp [k3], fun w rest hw => compL_cons (stays_w hw) ?_ (k4 w rest hw)⟩
          rw [show ((deep - 1 : Nat) : Int) = (deep : Int) - 1 by omega] at e1
          simp [c_law_patterne, e1]
      obtain ⟨ks, β4, k1, k2, k3, k4⟩ := turns (rngW 0 m).xs β3
      rw [rng_len] at k3
      refine ⟨.node a ks, β4, ⟨ha, by omega, k1⟩, by rw [htP]; omega, fun rest => ?_⟩
      have hi : iLim (m : Int) := by unfold iLim; omega
      have hc := comp_ok (C := pr.cl F (k + 2)) (e := c_law_patterne) (it := .rng1 (.var 4)) (st := bx β3 rest) (by simp [hi]) (k4 _ rest rfl) (by rw [List.length_map]; show _ ≤ 100000; omega)
      have hc' : ev (pr.cl F (k + 2)) c_law_pattern [some (.loc 0), some (.str L), some (.int deep), some (.int way), some (.int m), none] (bx β3 rest) = _ := hc
      have c1' : ¬ (deep : Int) < 2 := by omega
      have c2' : ¬ (way : Int) < 2 := by omega
      rw [u_law_pattern]
      simp [b_law_pattern, e1, e2, e3, c1', c2', hLl, hat, hc']
      rw [fin_bx]
      · rw [dP, dPs_map]
      · simp [← dPs_map]
        exact pls_cl (dPs_pl _ k1)
/-! ### parts -/
theorem parts_P (F : Nat) : ∀ (k : Nat) (p : Pt) (st : Sto), htP p ≤ k → okP p → pr.call F (k + 1) f_law_parts [dP p] st = .ok (.int (szP p)) st := by
  intro k
  induction k with
  | zero => intro p st h1; have := htP_pos p; omega
  | succ k ih =>
    intro p st h1 ok
    rw [u_law_parts]
    cases p with
    | any => simp [b_law_parts, dP, szP]
    | leaf => simp [b_law_parts, dP, szP]
    | node c ks =>
      rw [okP] at ok
      rw [htP] at h1
      have hc : ev (pr.cl F (k + 1)) c_law_parts [some (dP (.node c ks)), none] st = .ok (.loc st.length) (st ++ [.lst (ks.map fun t => D.int (szP t))]) := by
        refine comp_map (u := dP) (w := ⟨ks.map dP, none⟩) (s1 := st) ?_ rfl rfl (by show _ ≤ 100000; omega) fun t ht => ?_
        · simp [dP, dPs_map]
        · simp [c_law_partse, ih t st (by have := htPs_le ht; omega) (okPs_mem ok.2.2 ht)]
      have hs := szPs_sum ks
      have hi : intsD (ks.map fun t => D.int (szP t)) = some (ks.map fun t => (szP t : Int)) := by
        clear hc ok h1 hs
        induction ks with
        | nil => rfl
        | cons x xs ih => rw [List.map_cons, List.map_cons, intsD, ih]
      rw [dP] at hc ⊢
      simp [b_law_parts, hc, hi, hs, szP]
theorem parts_B (F : Nat) {P : Pt} : ∀ (k : Nat) (p : Bd) (st : Sto), htB p ≤ k → okB P p → pr.call F (k + 1) f_law_parts [dB p] st = .ok (.int (szB p)) st := by
  intro k
  induction k with
  | zero => intro p st h1; have := htB_pos p; omega
  | succ k ih =>
    intro p st h1 ok
    rw [u_law_parts]
    cases p with
    | go s p => simp [b_law_parts, dB, szB]
    | node c ks =>
      rw [okB] at ok
      rw [htB] at h1
      have hc : ev (pr.cl F (k + 1)) c_law_parts [some (dB (.node c ks)), none] st = .ok (.loc st.length) (st ++ [.lst (ks.map fun t => D.int (szB t))]) := by
        refine comp_map (u := dB) (w := ⟨ks.map dB, none⟩) (s1 := st) ?_ rfl rfl (by show _ ≤ 100000; omega) fun t ht => ?_
        · simp [dB, dBs_map]
        · simp [c_law_partse, ih t st (by have := htBs_le ht; omega) (okBs_mem ok.2.2 ht)]
      have hs := szBs_sum ks
      have hi : intsD (ks.map fun t => D.int (szB t)) = some (ks.map fun t => (szB t : Int)) := by
        clear hc ok h1 hs
        induction ks with
        | nil => rfl
        | cons x xs ih => rw [List.map_cons, List.map_cons, intsD, ih]
      rw [dB] at hc ⊢
      simp [b_law_parts, hc, hi, hs, szB]
end Law
namespace Law
open Z
/-- the paths that begin with a kid -/
def pathsK (ks : List Pt) (k : Nat) : List (List Nat) := [k] :: (match ks[k]? with | some (.node _ js) => (List.range js.length).map fun j => [k, j] | _ => [])
def pathsP : Pt → List (List Nat)
  | .node _ ks => (List.range ks.length).flatMap (pathsK ks)
  | _ => []
theorem pathsK_len (ks : List Pt) (k : Nat) (h : okPs ks) : (pathsK ks k).length ≤ 4 := by
  unfold pathsK
  split
  · rename_i c js e
    have := okPs_mem h (List.mem_of_getElem? e)
    rw [okP] at this
    simp; omega
  · simp
theorem flatMap_len {α β : Type} (f : α → List β) (m : Nat) : ∀ (l : List α), (∀ a ∈ l, (f a).length ≤ m) → (l.flatMap f).length ≤ l.length * m
  | [], _ => by simp
  | a :: l, h => by
    rw [List.flatMap_cons, List.length_append, List.length_cons, Nat.succ_mul]
    have h1 := h a List.mem_cons_self
    have h2 := flatMap_len f m l fun b hb => h b (List.mem_cons_of_mem _ hb)
    omega
theorem pathsP_len {p : Pt} (h : okP p) : (pathsP p).length ≤ 12 := by
  cases p with
  | any => simp [pathsP]
  | leaf => simp [pathsP]
  | node c ks =>
    rw [okP] at h
    rw [pathsP]
    have := flatMap_len (pathsK ks) 4 (List.range ks.length) fun k _ => pathsK_len ks k h.2.2
    rw [List.length_range] at this
    omega
theorem pathsP_ok {p : Pt} {q : List Nat} (h : q ∈ pathsP p) : 1 ≤ q.length ∧ q.length ≤ 2 ∧ ∃ s, subP p q = some s := by
  cases p with
  | any => simp [pathsP] at h
  | leaf => simp [pathsP] at h
  | node c ks =>
    rw [pathsP, List.mem_flatMap] at h
    obtain ⟨k, hk, h⟩ := h
    rw [List.mem_range] at hk
    have hg : ks[k]? = some ks[k] := List.getElem?_eq_getElem hk
    unfold pathsK at h
    rcases List.mem_cons.mp h with rfl | h
    · exact ⟨by simp, by simp, ks[k], by simp [subP, hg]⟩
    · split at h
      · rename_i c' js e
        obtain ⟨j, hj, rfl⟩ := List.mem_map.mp h
        rw [List.mem_range] at hj
        refine ⟨by simp, by simp, js[j], ?_⟩
        simp [subP, e, List.getElem?_eq_getElem hj]
      · cases h
theorem paths_spec (F k : Nat) {p : Pt} (ok : okP p) {st : Sto} : pr.call F (k + 1) f_law_paths [dP p] st = .ok (.loc st.length) (st ++ [.lst ((pathsP p).map dPa)]) := by
  rw [u_law_paths]
  cases p with
  | any => simp [b_law_paths, dP, pathsP]; exact finish_newL st [.lst []] (j := 0) rfl rfl
  | leaf => simp [b_law_paths, dP, pathsP]; exact finish_newL st [.lst []] (j := 0) rfl rfl
  | node c ks =>
    have ok0 := ok
    rw [okP] at ok
    have hl : (dPs ks).length = ks.length := by rw [dPs_map]; simp
    have hat : ∀ i : Nat, (h : i < ks.length) → L2.atI (dPs ks) (i : Int) = some (dP ks[i]) := fun i h => atI_nat (by rw [dPs_map, List.getElem?_map, List.getElem?_eq_getElem h]; rfl)
    obtain ⟨ρ', st', e1, v, g, rfl, rfl⟩ := for_rng (n := ks.length) (tg := .name 2) (b := evSs (pr.cl F k) F l_law_pathsb) (ρ := [some (dP (.node c ks)), some (.loc st.length), none, none]) (st := st ++ [.lst []])
      (fun i ρ s => ∃ v g, ρ = [some (dP (.node c ks)), some (.loc st.length), v, none] ∧ s = st ++ .lst (((List.range i).flatMap (pathsK ks)).map dPa) :: g)
      (by
        rintro i ρ s hi ⟨v, g, rfl, rfl⟩
        refine ⟨_, _, _, rfl, .inl ?_, some (.int i), ?_, rfl, rfl⟩
        rotate_left
        · exact g ++ (match ks[i] with | .node _ js => [.lst ((List.range js.length).map fun (j : Nat) => D.tup [.int i, .int j])] | _ => [])
        rw [List.range_succ, List.flatMap_append, List.flatMap_cons, List.flatMap_nil, List.append_nil]
        have hx := hat i hi
        have hlen : ((List.range i).flatMap (pathsK ks)).length ≤ 12 := by
          have := flatMap_len (pathsK ks) 4 (List.range i) fun k _ => pathsK_len ks k ok.2.2
          rw [List.length_range] at this
          omega
        have hg : ks[i]? = some ks[i] := List.getElem?_eq_getElem hi
        have okk := okPs_mem ok.2.2 (List.getElem_mem hi)
        have hpk : pathsK ks i = [i] :: (match ks[i] with | .node _ js => (List.range js.length).map fun j => [i, j] | _ => []) := by
          unfold pathsK; rw [hg]; cases ks[i] <;> rfl
        rw [hpk]
        generalize (List.range i).flatMap (pathsK ks) = A at hlen ⊢
        have hA : A.length < 100000 := by omega
        have hA2 : A.length < 99999 := by omega
        revert hx okk
        generalize ks[i] = K
        intro hx okk
        cases K with
        | any => simp [l_law_pathsb, dP, hx, dPa, hA]
        | leaf => simp [l_law_pathsb, dP, hx, dPa, hA]
        | node c' js =>
          rw [okP] at okk
          have hl' : (dPs js).length = js.length := by rw [dPs_map]; simp
          have hi' : iLim (js.length : Int) := by unfold iLim; omega
          have hc : ∀ s1, ev (pr.cl F k) c_law_paths [some (dP (.node c ks)), some (.loc st.length), some (.int (i : Int)), none] s1 = .ok (.loc s1.length) (s1 ++ [.lst ((List.range js.length).map fun (j : Nat) => D.tup [.int i, .int j])]) := fun s1 => by
            refine comp_rng (n := js.length) ?_ (by show _ ≤ 100000; omega) ?_
            · simp [dP, hx, hl', hi']
            · intro j hj
              simp [c_law_pathse]
          have hz : A.length + 1 + js.length ≤ 100000 := by omega
          simp only [dP] at hc hx ⊢
          simp [l_law_pathsb, hx, hc, dPa, hA, hz, Function.comp_def]) ⟨none, [], rfl, rfl⟩
    have hi : iLim (ks.length : Int) := by unfold iLim; omega
    rw [dP] at e1 ⊢
    simp [b_law_paths, l_law_paths, hl, hi, e1]
    have := finish_newL st (.lst (((List.range ks.length).flatMap (pathsK ks)).map dPa) :: g) (j := 0) rfl (by
      show (locsDs _).all _ = true
      rw [pls_locs (plDs_map fun a _ => dPa_pl a)]; rfl)
    rw [Nat.add_zero] at this
    rw [this, pathsP]
end Law
namespace Law
open Z
/-- states: some of 0 to 5 -/
structure okSt (S : List Nat) : Prop where
  pos : 1 ≤ S.length
  few : S.length ≤ 6
  ok : ∀ x ∈ S, x ≤ 5
def dN (n : Nat) : D := .int n
theorem dB_cl {P : Pt} {b : Bd} (h : okB P b) : clD 0 (dB b) = true := pl_cl (dB_pl b h)
/-! ### the drawing of builds -/
theorem build_spec (F : Nat) {L : Tx} (hL : okL L) {S : List Nat} (hS : okSt S) {P : Pt} {ps : List (List Nat)} (hps : ∀ q ∈ ps, 1 ≤ q.length ∧ q.length ≤ 2 ∧ ∃ s, subP P q = some s) (hpl : ps.length ≤ 12) : ∀ (k deep : Nat) (β : Bx), deep ≤ k → 1 ≤ deep → deep ≤ 4 →
    ∃ b β', okB P b ∧ htB b ≤ deep ∧ ∀ rest i j, rest[i]? = some (.lst (S.map dN)) → rest[j]? = some (.lst (ps.map dPa)) → pr.call F (k + 2) f_law_build [.loc 0, .str L, .loc (i + 2), .loc (j + 2), .int deep] (bx β rest) = .ok (dB b) (bx β' rest) := by
  intro k
  induction k with
  | zero => intro deep β h1 h2; omega
  | succ k ih =>
    intro deep β hdk hd1 hd4
    have hLl : L.length ≤ 100000 := by have := hL.few; omega
    -- the end without a do
    have tail : ∀ β : Bx, ∃ b β', okB P b ∧ htB b ≤ deep ∧ ∀ (ss : ISs), ∀ rest i j v5 v6, rest[i]? = some (.lst (S.map dN)) → rest[j]? = some (.lst (ps.map dPa)) →
        ∃ ρ' g, evSs (pr.cl F (k + 2)) F (.cons (.asg (.name 5) (.bin .mul (.call f_law_take (.cons (.var 0) (.cons (.cst (.int 4)) .nil))) (.bi .int (.cmp .gt (.var 4) (.cst (.int 1)))))) (.cons (.asg (.name 6) c_law_build) (.cons (.ret (.tup (.cons (.ix (.var 1) (.call f_law_take (.cons (.var 0) (.cons (.bi .len (.var 1)) .nil)))) (.cons (.bi .tuple (.var 6)) .nil)))) .nil)))
          [some (.loc 0), some (.str L), some (.loc (i + 2)), some (.loc (j + 2)), some (.int deep), v5, v6, none] (bx β rest) = .ok (.rt (dB b)) ρ' (bx β' (rest ++ g)) := by
      intro β
      obtain ⟨m0, β2, hm, e2⟩ := take_nat F (k + 1) β 4 (by decide) (by decide)
      have e2 : ∀ rest, pr.call F (k + 2) f_law_take [.loc 0, .int 4] (bx β rest) = _ := e2
      have turns : ∀ (xs : List D) (β : Bx), (xs ≠ [] → 2 ≤ deep) → ∃ (ks : List Bd) (β' : Bx), okBs P ks ∧ htBs ks + 1 ≤ deep ∧ ks.length = xs.length ∧ ∀ (w : Wk) rest i j v5 v6, w.l = none → rest[i]? = some (.lst (S.map dN)) → rest[j]? = some (.lst (ps.map dPa)) →
          compL w (turnC (pr.cl F (k + 2)) (.name 7) [7] .none c_law_builde [some (.loc 0), some (.str L), some (.loc (i + 2)), some (.loc (j + 2)), some (.int deep), v5, v6, none]) xs (bx β rest) = .ok (ks.map dB) (bx β' rest) := by
        intro xs
        induction xs with
        | nil => exact fun β _ => ⟨[], β, trivial, by rw [htBs]; omega, rfl, fun w rest i j v5 v6 hw _ _ => compL_nil (stays_w hw)⟩
        | cons x xs ihx =>
          intro β hx
          have h2 := hx (by simp)
          obtain ⟨b, β1, o1, o2, e1⟩ := ih (deep - 1) β (by omega) (by omega) (by omega)
          obtain ⟨ks, β2, k1, k2, k3, k4⟩ := ihx β1 (fun _ => h2)
          refine ⟨b :: ks, β2, ⟨o1, k1⟩, by rw [htBs]; omega, by simp [k3], fun w rest i j v5 v6 hw hi hj => compL_cons (stays_w hw) ?_ (k4 w rest i j v5 v6 hw hi hj)⟩
          have e1 := e1 rest i j hi hj
          rw [show ((deep - 1 : Nat) : Int) = (deep : Int) - 1 by omega] at e1
          simp [c_law_builde, e1]
      let m : Nat := if 1 < deep then m0 else 0
      have hmd : (m0 : Int) * (if (1 : Int) < (deep : Int) then 1 else 0) = (m : Int) := by
        by_cases c : 1 < deep
        · have : (1 : Int) < deep := by omega
          simp [m, c, this]
        · have : ¬ (1 : Int) < deep := by omega
          simp [m, c, this]
      have hm3 : m < 4 := by show (if _ then _ else _) < 4; split <;> omega
      obtain ⟨ks, β3, k1, k2, k3, k4⟩ := turns (rngW 0 m).xs β2 (fun h => by
        by_cases c : 1 < deep
        · omega
        · exfalso; apply h
          have : m = 0 := by simp [m, c]
          rw [this]; rfl)
      rw [rng_len] at k3
      obtain ⟨a, ra, β4, ha, _, hat, e3⟩ := take_letter F (k + 1) β3 hL
      refine ⟨.node a ks, β4, ⟨ha, by omega, k1⟩, by rw [htB]; omega, fun ss rest i j v5 v6 hi hj => ?_⟩
      have him : iLim (m : Int) := by unfold iLim; omega
      have hc := comp_ok (C := pr.cl F (k + 2)) (e := c_law_builde) (it := .rng1 (.var 5)) (st := bx β2 rest) (by simp [him]) (k4 _ rest i j (some (.int m)) v6 rfl hi hj) (by rw [List.length_map]; show _ ≤ 100000; omega)
      have hc' : ev (pr.cl F (k + 2)) c_law_build [some (.loc 0), some (.str L), some (.loc (i + 2)), some (.loc (j + 2)), some (.int deep), some (.int m), v6, none] (bx β2 rest) = _ := hc
      have hb : -18446744073709551616 < (m0 : Int) ∧ (m0 : Int) < 18446744073709551616 := by omega
      refine ⟨[some (.loc 0), some (.str L), some (.loc (i + 2)), some (.loc (j + 2)), some (.int deep), some (.int m), some (.loc (rest.length + 2)), none], [.lst (ks.map dB)], ?_⟩
      simp [e2, hb, hmd, hc', hLl, e3, hat, dB, dBs_map]
    have hne : ps.map dPa = [] ↔ ps = [] := by simp
    by_cases c0 : ps = []
    · obtain ⟨b, β', o1, o2, e⟩ := tail β
      refine ⟨b, β', o1, o2, fun rest i j hi hj => ?_⟩
      obtain ⟨ρ', g, e⟩ := e .nil (rest ++ [.lst []]) i j none none (app_at _ hi) (app_at _ hj)
      rw [u_law_build]
      simp [b_law_build, hj, app_at _ hj, c0, -ys_cons, ys_cons (s := .ite _ _ _), e, fin_bx, dB_cl o1]
    · obtain ⟨r, β1, hr, e1⟩ := take_nat F (k + 1) β 3 (by decide) (by decide)
      have e1 : ∀ rest, pr.call F (k + 2) f_law_take [.loc 0, .int 3] (bx β rest) = _ := e1
      by_cases hr0 : 0 < r
      · obtain ⟨a, β2, ha, e2⟩ := take_nat F (k + 1) β1 S.length hS.pos (by have := hS.few; omega)
        obtain ⟨b, β3, hb, e3⟩ := take_nat F (k + 1) β2 ps.length (List.length_pos_iff.mpr c0) (by omega)
        have hat : L2.atI (S.map dN) (a : Int) = some (.int (S[a] : Nat)) := atI_nat (by rw [List.getElem?_map, List.getElem?_eq_getElem ha]; rfl)
        have hat2 : L2.atI (ps.map dPa) (b : Int) = some (dPa ps[b]) := atI_nat (by rw [List.getElem?_map, List.getElem?_eq_getElem hb]; rfl)
        obtain ⟨p1, p2, p3⟩ := hps _ (List.getElem_mem hb)
        have okb : okB P (.go S[a] ps[b]) := ⟨hS.ok _ (List.getElem_mem ha), p1, p2, p3⟩
        refine ⟨.go S[a] ps[b], β3, okb, by rw [htB]; omega, fun rest i j hi hj => ?_⟩
        have hpe : (ps.isEmpty) = false := by cases ps <;> simp at c0 ⊢
        have hc := dB_cl okb
        rw [dB] at hc ⊢
        rw [u_law_build]
        simp [b_law_build, hj, app_at _ hj, app_at _ hi, hpe, e1, hr0, e2, e3, hat, hat2]
        rw [fin_bx hc]
      · obtain ⟨b, β', o1, o2, e⟩ := tail β1
        refine ⟨b, β', o1, o2, fun rest i j hi hj => ?_⟩
        obtain ⟨ρ', g, e⟩ := e .nil (rest ++ [.lst []]) i j none none (app_at _ hi) (app_at _ hj)
        have hpe : (ps.isEmpty) = false := by cases ps <;> simp at c0 ⊢
        rw [u_law_build]
        simp [b_law_build, hj, app_at _ hj, hpe, e1, hr0, -ys_cons, ys_cons (s := .ite _ _ _), e, fin_bx, dB_cl o1]
end Law
namespace Law
open Z
theorem htPs_0 {ks : List Pt} (h : htPs ks = 0) : ks = [] := by
  cases ks with
  | nil => rfl
  | cons p ps => rw [htPs] at h; have := htP_pos p; omega
theorem szPs_le {m : Nat} : ∀ {ks : List Pt}, (∀ p ∈ ks, szP p ≤ m) → szPs ks ≤ ks.length * m
  | [], _ => by simp [szPs]
  | p :: ps, h => by
    rw [szPs, List.length_cons, Nat.succ_mul]
    have := h p List.mem_cons_self
    have := szPs_le fun q hq => h q (List.mem_cons_of_mem _ hq)
    omega
theorem szP1 {p : Pt} (h : htP p ≤ 1) : szP p ≤ 1 := by
  cases p with
  | any => simp [szP]
  | leaf => simp [szP]
  | node c ks => rw [htP] at h; rw [htPs_0 (by omega : htPs ks = 0)]; simp [szP, szPs]
theorem szP2 {p : Pt} (ok : okP p) (h : htP p ≤ 2) : szP p ≤ 4 := by
  cases p with
  | any => simp [szP]
  | leaf => simp [szP]
  | node c ks =>
    rw [htP] at h; rw [szP]; rw [okP] at ok
    have := szPs_le (m := 1) (ks := ks) fun p hp => szP1 (by have := htPs_le hp; omega)
    omega
theorem szP3 {c : Nat} {ks : List Pt} (ok : okP (.node c ks)) (h : htP (.node c ks) ≤ 3) : szP (.node c ks) ≤ 1 + ks.length * 4 := by
  rw [htP] at h; rw [szP]; rw [okP] at ok
  have := szPs_le (m := 4) (ks := ks) fun p hp => szP2 (okPs_mem ok.2.2 hp) (by have := htPs_le hp; omega)
  omega
theorem dPs_any (n : Nat) : dPs (List.replicate n Pt.any) = List.replicate n (D.tup [.str [97, 110, 121]]) := by
  rw [dPs_map, List.map_replicate, dP]
theorem okPs_any (n : Nat) : okPs (List.replicate n Pt.any) := by
  induction n with
  | zero => trivial
  | succ n ih => exact ⟨trivial, ih⟩
theorem szPs_any (n : Nat) : szPs (List.replicate n Pt.any) = n := by
  induction n with
  | zero => rfl
  | succ n ih => rw [List.replicate_succ, szPs, ih, szP]; omega
theorem htPs_any (n : Nat) : htPs (List.replicate n Pt.any) ≤ 1 := by
  induction n with
  | zero => simp [htPs]
  | succ n ih => rw [List.replicate_succ, htPs, htP]; omega
/-! ### the drawing of rules -/
theorem rule_spec (F k : Nat) {L : Tx} (hL : okL L) {S : List Nat} (hS : okSt S) (β : Bx) :
    ∃ r β', okR r ∧ ∀ rest i, rest[i]? = some (.lst (S.map dN)) → pr.call F (k + 10) f_law_rule [.loc 0, .str L, .loc (i + 2)] (bx β rest) = .ok (dR r) (bx β' rest) := by
  have hLl : L.length ≤ 100000 := by have := hL.few; omega
  obtain ⟨d1, β1, hd1, e1⟩ := take_nat F (k + 8) β 3 (by decide) (by decide)
  obtain ⟨p, β2, okp, hp, e2⟩ := pattern_spec F hL (k + 7) (1 + d1) β1 (by omega) (by omega) (by omega)
  have e3 := fun st => parts_P F (k + 8) p st (by omega) okp
  -- the pattern that stays
  obtain ⟨p', okp', hp', hz', e4⟩ : ∃ p', okP p' ∧ htP p' ≤ 3 ∧ szP p' ≤ 7 ∧ ∀ rest i v4 v5 v6, evS (pr.cl F (k + 9)) F (.ite (.cmp .gt (.call f_law_parts (.cons (.var 3) .nil)) (.cst (.int 7))) (.cons (.asg (.name 3) (.tup (.cons (.ix (.var 3) (.cst (.int 0))) (.cons (.bin .mul (.tup (.cons (.tup (.cons (.cst (.str [97, 110, 121])) .nil)) .nil)) (.bi .len (.ix (.var 3) (.cst (.int 1))))) .nil)))) .nil) .nil) [some (.loc 0), some (.str L), some (.loc (i + 2)), some (dP p), v4, v5, v6] (bx β2 rest) =
      .ok .nx [some (.loc 0), some (.str L), some (.loc (i + 2)), some (dP p'), v4, v5, v6] (bx β2 rest) := by
    by_cases c : 7 < szP p
    · cases p with
      | any => simp [szP] at c
      | leaf => simp [szP] at c
      | node a ks =>
        have h3 := szP3 okp (by omega)
        have ok2 := okp
        rw [okP] at ok2
        have hk2 : 2 ≤ ks.length := by omega
        have hlen : (dPs ks).length = ks.length := by rw [dPs_map]; simp
        have hc : (7 : Int) < (szP (.node a ks) : Int) := by omega
        refine ⟨.node a (List.replicate ks.length .any), ⟨ok2.1, by simp [ok2.2.1], okPs_any _⟩, by rw [htP]; have := htPs_any ks.length; omega, by rw [szP, szPs_any]; omega, fun rest i v4 v5 v6 => ?_⟩
        rw [dP] at e3
        rw [dP, dP, dPs_any]
        have hk : (2 : Int) ≤ (ks.length : Int) ∧ (ks.length : Int) ≤ 1000 := by omega
        simp [e3, hc, hlen, hk]
    · have hc : ¬ (7 : Int) < (szP p : Int) := by omega
      refine ⟨p, okp, by omega, by omega, fun rest i v4 v5 v6 => ?_⟩
      simp [e3, hc]
  obtain ⟨d2, β3, hd2, e5⟩ := take_nat F (k + 8) β2 4 (by decide) (by decide)
  have e6 := fun st => paths_spec F (k + 8) okp' (st := st)
  obtain ⟨b, β4, okb, hb, e7⟩ := build_spec F hL hS (fun q hq => pathsP_ok hq) (pathsP_len okp') (k + 7) (1 + d2) β3 (by omega) (by omega) (by omega)
  have e8 := fun st => parts_B F (k + 8) b st (by omega) okb
  -- the build that stays
  obtain ⟨b', okb', hb', hz2, e9⟩ : ∃ b', okB p' b' ∧ htB b' ≤ 4 ∧ szB b' ≤ 12 ∧ ∀ rest i v4 v6, evS (pr.cl F (k + 9)) F (.ite (.cmp .gt (.call f_law_parts (.cons (.var 5) .nil)) (.cst (.int 12))) (.cons (.asg (.name 5) (.ite (.cmp .lt (.call f_law_parts (.cons (.ix (.ix (.var 5) (.cst (.int 1))) (.cst (.int 0))) .nil)) (.cst (.int 12))) (.tup (.cons (.ix (.var 5) (.cst (.int 0))) (.cons (.sl (.ix (.var 5) (.cst (.int 1))) .none (.some (.cst (.int 1)))) .nil))) (.tup (.cons (.ix (.var 5) (.cst (.int 0))) (.cons (.tup .nil) .nil))))) .nil) .nil) [some (.loc 0), some (.str L), some (.loc (i + 2)), some (dP p'), v4, some (dB b), v6] (bx β4 rest) =
      .ok .nx [some (.loc 0), some (.str L), some (.loc (i + 2)), some (dP p'), v4, some (dB b'), v6] (bx β4 rest) := by
    by_cases c : 12 < szB b
    · cases b with
      | go s q => simp [szB] at c
      | node a ks =>
        cases ks with
        | nil => simp [szB, szBs] at c
        | cons x ks =>
          have ok2 := okb
          rw [okB] at ok2
          have okx := ok2.2.2.1
          have hc : (12 : Int) < (szB (.node a (x :: ks)) : Int) := by omega
          rw [htB, htBs] at hb
          have e10 := fun st => parts_B F (k + 8) x st (by omega) okx
          rw [dB, dBs] at e8
          by_cases c2 : szB x < 12
          · have hc2 : (szB x : Int) < 12 := by omega
            refine ⟨.node a [x], ⟨ok2.1, by simp, okx, trivial⟩, by rw [htB, htBs, htBs]; omega, by rw [szB, szBs, szBs]; omega, fun rest i v4 v6 => ?_⟩
            rw [dB, dB, dBs, dBs, dBs]
            simp [e8, hc, e10, hc2]
          · have hc2 : ¬ (szB x : Int) < 12 := by omega
            refine ⟨.node a [], ⟨ok2.1, by simp, trivial⟩, by rw [htB, htBs]; omega, by rw [szB, szBs]; omega, fun rest i v4 v6 => ?_⟩
            rw [dB, dB, dBs, dBs]
            simp [e8, hc, e10, hc2]
    · have hc : ¬ (12 : Int) < (szB b : Int) := by omega
      refine ⟨b, okb, by omega, by omega, fun rest i v4 v6 => ?_⟩
      simp [e8, hc]
  obtain ⟨a, ra, β5, ha, _, hat, f1⟩ := take_letter F (k + 8) β4 hL
  obtain ⟨q, β6, hq, f2⟩ := take_nat F (k + 8) β5 3 (by decide) (by decide)
  obtain ⟨s, β7, hs, f3⟩ := take_nat F (k + 8) β6 S.length hS.pos (by have := hS.few; omega)
  obtain ⟨w, β8, hw, f4⟩ := take_nat F (k + 8) β7 6 (by decide) (by decide)
  have e1 : ∀ rest, pr.call F (k + 9) f_law_take [.loc 0, .int 3] (bx β rest) = _ := e1
  have e5 : ∀ rest, pr.call F (k + 9) f_law_take [.loc 0, .int 4] (bx β2 rest) = _ := e5
  have f2 : ∀ rest, pr.call F (k + 9) f_law_take [.loc 0, .int 3] (bx β5 rest) = _ := f2
  have f4 : ∀ rest, pr.call F (k + 9) f_law_take [.loc 0, .int 6] (bx β7 rest) = _ := f4
  have hatS : L2.atI (S.map dN) (s : Int) = some (.int (S[s] : Nat)) := atI_nat (by rw [List.getElem?_map, List.getElem?_eq_getElem hs]; rfl)
  obtain ⟨sp, oksp, hsp⟩ : ∃ sp, okSp sp ∧ L2.atI [D.non, D.non, D.non, D.tup [.str [116, 111, 112]], D.tup [.str [117, 110, 100, 101, 114], .str [a]], D.tup [.str [107, 105, 100], .int q]] (w : Int) = some (dSp sp) := by
    have : w = 0 ∨ w = 1 ∨ w = 2 ∨ w = 3 ∨ w = 4 ∨ w = 5 := by omega
    rcases this with rfl | rfl | rfl | rfl | rfl | rfl
    · exact ⟨.no, trivial, atI_nat rfl⟩
    · exact ⟨.no, trivial, atI_nat rfl⟩
    · exact ⟨.no, trivial, atI_nat rfl⟩
    · exact ⟨.top, trivial, atI_nat rfl⟩
    · exact ⟨.under a, ha, atI_nat rfl⟩
    · exact ⟨.kid q, (by show q ≤ 2; omega), atI_nat rfl⟩
  have okr : okR ⟨S[s], sp, p', b'⟩ := ⟨hS.ok _ (List.getElem_mem hs), oksp, okp', hp', hz', okb', hb', hz2⟩
  refine ⟨⟨S[s], sp, p', b'⟩, β8, okr, fun rest i hi => ?_⟩
  have hcl : clD 0 (dR ⟨S[s], sp, p', b'⟩) = true := pl_cl (dR_pl okr)
  have e7 := e7 (rest ++ [.lst ((pathsP p').map dPa)]) i rest.length (app_at _ hi) at_last
  rw [show ((1 + d1 : Nat) : Int) = 1 + (d1 : Int) by omega] at e2
  rw [show ((1 + d2 : Nat) : Int) = 1 + (d2 : Int) by omega] at e7
  rw [u_law_rule]
  simp [b_law_rule, e1, e2, e4, -y_ite, e6, e5, e7, e9, hLl, hat, f1, f2, app_at _ hi, f3, f4, hatS, hsp]
  rw [dR] at hcl ⊢
  rw [fin_bx hcl]
end Law
namespace Law
open Z
theorem atI_map {α : Type} {u : α → D} {l : List α} {i : Nat} (h : i < l.length) : L2.atI (l.map u) (i : Int) = some (u l[i]) := atI_nat (by rw [List.getElem?_map, List.getElem?_eq_getElem h]; rfl)
/-- the states' turns -/
theorem states_turns (F k : Nat) : ∀ (xs : List D) (β : Bx) (cs : List Nat), cs.length ≤ 5 → xs.length ≤ cs.length → (∀ x ∈ cs, x ≤ 5) → ∃ (ls : List Nat) (β' : Bx) (cs' : List Nat), ls.length = xs.length ∧ (∀ x ∈ ls, x ≤ 5) ∧
      ∀ (w : Wk) (rest g : Sto) a3 a4 a5, w.l = none → ∀ L, compL w (turnC (pr.cl F (k + 1)) (.name 6) [6] .none c_law_booke [some (.loc 0), some (.str L), some (.loc (rest.length + 2)), a3, a4, a5, none]) xs (bx β (rest ++ .lst (cs.map dN) :: g)) = .ok (ls.map dN) (bx β' (rest ++ .lst (cs'.map dN) :: g)) := by
  intro xs
  induction xs with
  | nil => exact fun β cs _ _ _ => ⟨[], β, cs, rfl, (fun x hx => nomatch hx), fun w rest g a3 a4 a5 hw L => compL_nil (stays_w hw)⟩
  | cons x xs ih =>
    intro β cs hc hl ho
    simp only [List.length_cons] at hl
    obtain ⟨i, β1, hi, e1⟩ := take_nat F k β cs.length (by omega) (by omega)
    obtain ⟨ls, β2, cs', l1, l2, l3⟩ := ih β1 (cs.eraseIdx i) (by rw [List.length_eraseIdx, if_pos hi]; omega) (by rw [List.length_eraseIdx, if_pos hi]; omega) (fun x hx => ho x (List.mem_of_mem_eraseIdx hx))
    refine ⟨cs[i] :: ls, β2, cs', by simp [l1], fun x hx => ?_, fun w rest g a3 a4 a5 hw L => ?_⟩
    · rcases List.mem_cons.mp hx with rfl | hx
      · exact ho _ (List.getElem_mem hi)
      · exact l2 x hx
    · refine compL_cons (stays_w hw) ?_ (l3 w rest g a3 a4 a5 hw L)
      have hx : L2.ixN cs.length (i : Int) = some i := ixN_nat hi
      simp [c_law_booke, e1, hx, hi, eraseIdx_map, dN, (by omega : cs.length ≤ 100000)]
theorem rules_turns (F k : Nat) {L : Tx} (hL : okL L) {S : List Nat} (hS : okSt S) : ∀ (xs : List D) (β : Bx), ∃ (rs : List Ru) (β' : Bx), rs.length = xs.length ∧ (∀ r ∈ rs, okR r) ∧
      ∀ (w : Wk) rest i a2 a4 a5, w.l = none → rest[i]? = some (.lst (S.map dN)) → compL w (turnC (pr.cl F (k + 10)) (.name 6) [6] .none c_law_book2e [some (.loc 0), some (.str L), a2, some (.loc (i + 2)), a4, a5, none]) xs (bx β rest) = .ok (rs.map dR) (bx β' rest) := by
  intro xs
  induction xs with
  | nil => exact fun β => ⟨[], β, rfl, (fun x hx => nomatch hx), fun w rest i a2 a4 a5 hw _ => compL_nil (stays_w hw)⟩
  | cons x xs ih =>
    intro β
    obtain ⟨r, β1, okr, e1⟩ := rule_spec F k hL hS β
    obtain ⟨rs, β2, l1, l2, l3⟩ := ih β1
    refine ⟨r :: rs, β2, by simp [l1], fun x hx => ?_, fun w rest i a2 a4 a5 hw hi => compL_cons (stays_w hw) ?_ (l3 w rest i a2 a4 a5 hw hi)⟩
    · rcases List.mem_cons.mp hx with rfl | hx
      · exact okr
      · exact l2 x hx
    · simp [c_law_book2e, e1 rest i hi]
def lastR (s a : Nat) : Ru := ⟨s, .no, .any, .node a []⟩
theorem lastR_ok {s a : Nat} (hs : s ≤ 5) (ha : 97 ≤ a ∧ a ≤ 102) : okR (lastR s a) :=
  ⟨hs, trivial, trivial, by simp [lastR, htP], by simp [lastR, szP], ⟨ha, by simp, trivial⟩, by simp [lastR, htB, htBs], by simp [lastR, szB, szBs]⟩
theorem last_turns (F k : Nat) {L : Tx} (hL : okL L) {S : List Nat} (hS : okSt S) : ∀ (ys : List Nat) (β : Bx) (rs : List Ru), (∀ y ∈ ys, y ≤ 5) → rs.length + ys.length ≤ 16 → ∃ (rs' : List Ru) (β' : Bx), rs'.length ≤ ys.length ∧ (∀ r ∈ rs', okR r) ∧
      ∀ (rest : Sto) c0 c1 c2 c3 c5 a2 v5, ∃ v', loopF ⟨S.map dN, some (rest.length + 6, .lst (S.map dN))⟩ (.name 5) (evSs (pr.cl F (k + 1)) F l_law_bookb) (ys.map dN) [some (.loc 0), some (.str L), a2, some (.loc (rest.length + 6)), some (.loc (rest.length + 8)), v5, none] (bx β (rest ++ [c0, c1, c2, c3, .lst (S.map dN), c5, .lst (rs.map dR)])) =
        .ok .nx [some (.loc 0), some (.str L), a2, some (.loc (rest.length + 6)), some (.loc (rest.length + 8)), v', none] (bx β' (rest ++ [c0, c1, c2, c3, .lst (S.map dN), c5, .lst ((rs ++ rs').map dR)])) := by
  have hLl : L.length ≤ 100000 := by have := hL.few; omega
  intro ys
  induction ys with
  | nil => exact fun β rs _ _ => ⟨[], β, by simp, (fun x hx => nomatch hx), fun rest c0 c1 c2 c3 c5 a2 v5 => ⟨v5, by rw [List.append_nil]; exact loop_nil (by simp [Wk.stays])⟩⟩
  | cons y ys ih =>
    intro β rs hy hl
    simp only [List.length_cons] at hl
    obtain ⟨q, β1, hq, e1⟩ := take_nat F k β 4 (by decide) (by decide)
    have e1 : ∀ rest, pr.call F (k + 1) f_law_take [.loc 0, .int 4] (bx β rest) = _ := e1
    have hy5 := hy y List.mem_cons_self
    by_cases c : 0 < q
    · obtain ⟨a, ra, β2, ha, _, hat, e2⟩ := take_letter F k β1 hL
      obtain ⟨rs', β3, l1, l2, l3⟩ := ih β2 (rs ++ [lastR y a]) (fun z hz => hy z (List.mem_cons_of_mem _ hz)) (by simp; omega)
      refine ⟨lastR y a :: rs', β3, by simp; omega, fun x hx => ?_, fun rest c0 c1 c2 c3 c5 a2 v5 => ?_⟩
      · rcases List.mem_cons.mp hx with rfl | hx
        · exact lastR_ok hy5 ha
        · exact l2 x hx
      · obtain ⟨v', e3⟩ := l3 rest c0 c1 c2 c3 c5 a2 (some (dN y))
        refine ⟨v', ?_⟩
        rw [show rs ++ lastR y a :: rs' = rs ++ [lastR y a] ++ rs' by simp, ← e3]
        refine loop_cons (by simp [Wk.stays]) rfl ?_ rfl
        simp [l_law_bookb, e1, c, e2, hLl, hat, (by omega : rs.length < 100000), lastR, dR, dSp, dP, dB, dBs, dN]
    · obtain ⟨rs', β3, l1, l2, l3⟩ := ih β1 rs (fun z hz => hy z (List.mem_cons_of_mem _ hz)) (by omega)
      refine ⟨rs', β3, by simp; omega, l2, fun rest c0 c1 c2 c3 c5 a2 v5 => ?_⟩
      obtain ⟨v', e3⟩ := l3 rest c0 c1 c2 c3 c5 a2 (some (dN y))
      refine ⟨v', ?_⟩
      rw [← e3]
      refine loop_cons (by simp [Wk.stays]) rfl ?_ rfl
      simp [l_law_bookb, e1, c]
/-- a book -/
theorem book_spec (F k : Nat) {L : Tx} (hL : okL L) (β : Bx) : ∃ rs β', okBk rs ∧ ∀ rest, pr.call F (k + 11) f_law_book [.loc 0, .str L] (bx β rest) = .ok (.loc (rest.length + 2)) (bx β' (rest ++ [.lst (rs.map dR)])) := by
  obtain ⟨q, β1, hq, e1⟩ := take_nat F (k + 9) β 4 (by decide) (by decide)
  have e1 : ∀ rest, pr.call F (k + 10) f_law_take [.loc 0, .int 4] (bx β rest) = _ := e1
  obtain ⟨n, hn, hn6⟩ : ∃ n : Nat, L2.atI [D.int 0, D.int 1, D.int 2, D.int 5] (q : Int) = some (.int n) ∧ n ≤ 5 := by
    have : q = 0 ∨ q = 1 ∨ q = 2 ∨ q = 3 := by omega
    rcases this with rfl | rfl | rfl | rfl
    · exact ⟨0, atI_nat rfl, by decide⟩
    · exact ⟨1, atI_nat rfl, by decide⟩
    · exact ⟨2, atI_nat rfl, by decide⟩
    · exact ⟨5, atI_nat rfl, by decide⟩
  obtain ⟨ls, β2, cs', l1, l2, l3⟩ := states_turns F (k + 9) (rngW 0 n).xs β1 [1, 2, 3, 4, 5] (by simp) (by rw [rng_len]; simp; omega) (by intro x hx; simp at hx; omega)
  rw [rng_len] at l1
  have hS : okSt (0 :: ls) := ⟨by simp, by simp; omega, fun x hx => by
    rcases List.mem_cons.mp hx with rfl | hx
    · omega
    · exact l2 x hx⟩
  obtain ⟨q2, β3, hq2, e2⟩ := take_nat F (k + 9) β2 2 (by decide) (by decide)
  have e2 : ∀ rest, pr.call F (k + 10) f_law_take [.loc 0, .int 2] (bx β2 rest) = _ := e2
  obtain ⟨m0, hm0, hm1, hm11⟩ : ∃ m0 : Nat, L2.atI [D.int 5, D.int 11] (q2 : Int) = some (.int m0) ∧ 1 ≤ m0 ∧ m0 ≤ 11 := by
    have : q2 = 0 ∨ q2 = 1 := by omega
    rcases this with rfl | rfl
    · exact ⟨5, atI_nat rfl, by decide, by decide⟩
    · exact ⟨11, atI_nat rfl, by decide, by decide⟩
  obtain ⟨m, β4, hm, e3⟩ := take_nat F (k + 9) β3 m0 (by omega) (by omega)
  obtain ⟨rs, β5, r1, r2, r3⟩ := rules_turns F k hL hS (rngW 0 m).xs β4
  rw [rng_len] at r1
  obtain ⟨rs', β6, t1, t2, t3⟩ := last_turns F (k + 9) hL hS (0 :: ls) β5 rs hS.ok (by simp; omega)
  simp only [List.length_cons] at t1
  have okb : okBk (rs ++ rs') := ⟨by simp; omega, fun r hr => by
    rcases List.mem_append.mp hr with hr | hr
    · exact r2 r hr
    · exact t2 r hr⟩
  refine ⟨rs ++ rs', β6, okb, fun rest => ?_⟩
  have hin : iLim (n : Int) := by unfold iLim; omega
  have him : iLim (m : Int) := by unfold iLim; omega
  have hc1 := comp_ok (C := pr.cl F (k + 10)) (e := c_law_booke) (it := (.rng1 (.ix (.lst (.cons (.cst (.int 0)) (.cons (.cst (.int 1)) (.cons (.cst (.int 2)) (.cons (.cst (.int 5)) .nil))))) (.call f_law_take (.cons (.var 0) (.cons (.cst (.int 4)) .nil)))))) (st := bx β (rest ++ [.lst ([1, 2, 3, 4, 5].map dN), .lst [.int 0]])) (by simp [e1, hn, hin]) (l3 (rngW 0 n) rest [.lst [.int 0], .lst [.int 0, .int 1, .int 2, .int 5]] none none none rfl L) (by rw [List.length_map]; show _ ≤ 100000; omega)
  have hc1' : ev (pr.cl F (k + 10)) c_law_book [some (.loc 0), some (.str L), some (.loc (rest.length + 2)), none, none, none, none] (bx β (rest ++ [.lst [.int 1, .int 2, .int 3, .int 4, .int 5], .lst [.int 0]])) = _ := hc1
  have hc2 := comp_ok (C := pr.cl F (k + 10)) (e := c_law_book2e) (it := (.rng1 (.call f_law_take (.cons (.var 0) (.cons (.ix (.lst (.cons (.cst (.int 5)) (.cons (.cst (.int 11)) .nil))) (.call f_law_take (.cons (.var 0) (.cons (.cst (.int 2)) .nil)))) .nil))))) (st := bx β2 (rest ++ [.lst (cs'.map dN), .lst [.int 0], .lst [.int 0, .int 1, .int 2, .int 5], .lst (ls.map dN), .lst ((0 :: ls).map dN)])) (by simp [e2, hm0, e3, him]) (r3 (rngW 0 m) (rest ++ [.lst (cs'.map dN), .lst [.int 0], .lst [.int 0, .int 1, .int 2, .int 5], .lst (ls.map dN), .lst ((0 :: ls).map dN), .lst [.int 5, .int 11]]) (rest.length + 4) (some (.loc (rest.length + 2))) none none rfl (by simp)) (by rw [List.length_map]; show _ ≤ 100000; omega)
  have hc2' : ev (pr.cl F (k + 10)) c_law_book2 [some (.loc 0), some (.str L), some (.loc (rest.length + 2)), some (.loc (rest.length + 6)), none, none, none] (bx β2 (rest ++ [.lst (cs'.map dN), .lst [.int 0], .lst [.int 0, .int 1, .int 2, .int 5], .lst (ls.map dN), .lst ((0 :: ls).map dN)])) = _ := hc2
  obtain ⟨v', hc3⟩ := t3 rest (.lst (cs'.map dN)) (.lst [.int 0]) (.lst [.int 0, .int 1, .int 2, .int 5]) (.lst (ls.map dN)) (.lst [.int 5, .int 11]) (some (.loc (rest.length + 2))) none
  have hr : (rngW 1 5).xs = [.int 1, .int 2, .int 3, .int 4, .int 5] := by decide
  have hS1 : (0 :: ls).map dN = .int 0 :: ls.map dN := rfl
  rw [hS1] at hc2' hc3
  rw [u_law_book]
  simp [b_law_book, hr, hc1', l1, (by omega : 1 + n ≤ 100000), Nat.add_assoc]
  rw [hc2']
  simp [l_law_book, Nat.add_assoc]
  rw [hc3]
  simp
  have := fin_bxL (β := β) (γ := β6) (r := rest) (g := [.lst (cs'.map dN), .lst [.int 0], .lst [.int 0, .int 1, .int 2, .int 5], .lst (ls.map dN), .lst (dN 0 :: ls.map dN), .lst [.int 5, .int 11], .lst (rs.map dR ++ rs'.map dR)]) (j := 6) rfl (by
    show locsDs (rs.map dR ++ rs'.map dR) = []
    rw [← List.map_append]
    exact pls_locs okb.pl)
  exact this
end Law
namespace Law
open Z
/-! ### good books are let by -/
theorem mem_al {st : Sto} {p : Pt} (ok : okP p) (h : htP p ≤ 20) : memD st (dP p) (.tup [g_ANY, g_LEAF]) = some (match p with | .node _ _ => false | _ => true) := by
  have h1 := dP_dep p
  show memS st (dP p) [g_ANY, g_LEAF] = _
  rw [memS_pl (dP_pl p ok) (by decide) (by omega) (by decide)]
  cases p <;> rw [dP] <;> simp
theorem ints_of {α : Type} (f : α → Nat) : ∀ l : List α, intsD (l.map fun t => D.int (f t)) = some (l.map fun t => (f t : Int))
  | [] => rfl
  | x :: xs => by rw [List.map_cons, List.map_cons, intsD, ints_of f xs]
theorem pattern_parts_spec (F : Nat) : ∀ (k : Nat) (p : Pt) (deep : Nat) (st : Sto), htP p ≤ deep → deep ≤ k → deep ≤ 20 → okP p → pr.call F (k + 1) f_pattern_parts [dP p, .int deep] st = .ok (.int (szP p)) st := by
  intro k
  induction k with
  | zero => intro p deep st h1 h2; have := htP_pos p; omega
  | succ k ih =>
    intro p deep st h1 h2 h3 ok
    have hp := htP_pos p
    have hm := mem_al (st := st) ok (by omega)
    rw [u_pattern_parts]
    have hd : ¬ ((deep : Int) < 1) := by omega
    cases p with
    | any =>
      rw [dP] at hm ⊢
      simp [b_pattern_parts, hd, hm, szP]
    | leaf =>
      rw [dP] at hm ⊢
      simp [b_pattern_parts, hd, hm, szP]
    | node c ks =>
      rw [okP] at ok
      rw [htP] at h1
      have hl := is_label_spec F k (c := c) (st := st) ok.1
      have hlen : (dPs ks).length = ks.length := by rw [dPs_map]; simp
      have hk3 : ¬ (3 : Int) < (ks.length : Int) := by omega
      have hc : ev (pr.cl F (k + 1)) c_pattern_parts [some (dP (.node c ks)), some (.int deep), none] st = .ok (.loc st.length) (st ++ [.lst (ks.map fun t => D.int (szP t))]) := by
        refine comp_map (u := dP) (w := ⟨ks.map dP, none⟩) (s1 := st) ?_ rfl rfl (by show _ ≤ 100000; omega) fun t ht => ?_
        · simp [dP, dPs_map]
        · have := ih t (deep - 1) st (by have := htPs_le ht; omega) (by omega) (by omega) (okPs_mem ok.2.2 ht)
          rw [show (((deep - 1 : Nat)) : Int) = (deep : Int) - 1 by omega] at this
          simp [c_pattern_partse, this]
      rw [dP] at hm hc ⊢
      simp [b_pattern_parts, hd, hm, hl, hlen, hk3, hc, ints_of, szPs_sum, szP]
/-- the turns of has_path -/
theorem path_loop (F k : Nat) {st : Sto} {pd : D} {w : Wk} (hw : w.l = none) : ∀ (r : List Nat) (P q : Pt) (v : Option D), okP P → htP P ≤ 20 → subP P r = some q →
    ∃ v' P', loopF w (.name 2) (evSs (pr.cl F (k + 1)) F l_has_pathb) (r.map fun (i : Nat) => D.int i) [some (dP P), some pd, v] st = .ok .nx [some P', some pd, v'] st := by
  intro r
  induction r with
  | nil => exact fun P q v _ _ _ => ⟨v, dP P, loop_nil (stays_w hw)⟩
  | cons i r ih =>
    intro P q v ok hh hs
    cases P with
    | any => simp [subP] at hs
    | leaf => simp [subP] at hs
    | node c ks =>
      rw [subP] at hs
      cases hq : ks[i]? with
      | none => rw [hq] at hs; cases hs
      | some K =>
        rw [hq] at hs
        have hs : subP K r = some q := hs
        have hm := mem_al (st := st) ok (by omega)
        rw [okP] at ok
        rw [htP] at hh
        have hmem : K ∈ ks := List.mem_of_getElem? hq
        obtain ⟨hi, _⟩ := List.getElem?_eq_some_iff.mp hq
        obtain ⟨v', P', e⟩ := ih K q (some (.int i)) (okPs_mem ok.2.2 hmem) (by have := htPs_le hmem; omega) hs
        refine ⟨v', P', loop_cons (stays_w hw) rfl ?_ e⟩
        have hlen : (dPs ks).length = ks.length := by rw [dPs_map]; simp
        have hn := is_number_spec F k (n := (i : Int)) (lo := 0) (hi := (ks.length : Int) - 1) (st := st) (by omega) (by omega)
        have hat : L2.atI (dPs ks) (i : Int) = some (dP K) := atI_nat (by rw [dPs_map, List.getElem?_map, hq]; rfl)
        rw [dP] at hm ⊢
        simp [l_has_pathb, hm, hlen, hn, hat]
theorem has_path_spec (F k : Nat) {st : Sto} {P q : Pt} {p : List Nat} (ok : okP P) (hh : htP P ≤ 20) (h1 : 1 ≤ p.length) (h2 : p.length ≤ 2) (hs : subP P p = some q) : pr.call F (k + 2) f_has_path [dP P, dPa p] st = .ok (.bl true) st := by
  obtain ⟨v', P', e⟩ := path_loop F k (st := st) (pd := dPa p) (w := ⟨p.map fun (i : Nat) => D.int i, none⟩) rfl p P q none ok hh hs
  have h1' : (1 : Int) ≤ (p.length : Int) := by omega
  have h2' : (p.length : Int) ≤ 2 := by omega
  rw [u_has_path]
  simp only [dPa] at e ⊢
  simp [b_has_path, l_has_path, h1', h2', e]
theorem build_parts_spec (F : Nat) {P : Pt} (okp : okP P) (hp : htP P ≤ 20) : ∀ (k : Nat) (b : Bd) (deep : Nat) (st : Sto), htB b ≤ deep → deep ≤ k → deep ≤ 20 → okB P b → pr.call F (k + 2) f_build_parts [dB b, dP P, .int deep] st = .ok (.int (szB b)) st := by
  intro k
  induction k with
  | zero => intro b deep st h1 h2; have := htB_pos b; omega
  | succ k ih =>
    intro b deep st h1 h2 h3 ok
    have hb := htB_pos b
    rw [u_build_parts]
    have hd : ¬ ((deep : Int) < 1) := by omega
    cases b with
    | go s p =>
      rw [okB] at ok
      obtain ⟨o1, o2, o3, q, o4⟩ := ok
      have e1 := is_number_spec F (k + 1) (n := (s : Int)) (lo := 0) (hi := 5) (st := st) (by omega) (by omega)
      have e2 := has_path_spec F k (st := st) okp hp o2 o3 o4
      rw [dB]
      simp [b_build_parts, hd, szB, e1, e2]
    | node c ks =>
      rw [okB] at ok
      rw [htB] at h1
      have hl := is_label_spec F (k + 1) (c := c) (st := st) ok.1
      have hlen : (dBs ks).length = ks.length := by rw [dBs_map]; simp
      have hk3 : ¬ (3 : Int) < (ks.length : Int) := by omega
      have hc : ∀ v, ev (pr.cl F (k + 2)) c_build_parts [some (dB (.node c ks)), some (dP P), some (.int deep), v, none] st = .ok (.loc st.length) (st ++ [.lst (ks.map fun t => D.int (szB t))]) := fun v => by
        refine comp_map (u := dB) (w := ⟨ks.map dB, none⟩) (s1 := st) ?_ rfl rfl (by show _ ≤ 100000; omega) fun t ht => ?_
        · simp [dB, dBs_map]
        · have := ih t (deep - 1) st (by have := htBs_le ht; omega) (by omega) (by omega) (okBs_mem ok.2.2 ht)
          rw [show (((deep - 1 : Nat)) : Int) = (deep : Int) - 1 by omega] at this
          simp [c_build_partse, this]
      rw [dB] at hc ⊢
      simp [b_build_parts, hd, hl, hlen, hk3, hc, ints_of, szBs_sum, szB]
theorem is_spot_spec (F k : Nat) {s : Sp} {st : Sto} (h : okSp s) : pr.call F (k + 2) f_is_spot [dSp s] st = .ok (.bl true) st := by
  rw [u_is_spot]
  have hq : s ≠ .no → eqD st (dSp s) (.tup [.str [116, 111, 112]]) = some (decide (dSp s = .tup [.str [116, 111, 112]])) := fun hn => by
    have := eqG_pl (st := st) (a := dSp s) (b := .tup [.str [116, 111, 112]]) (dSp_pl s h) (by decide) (by have := dSp_dep s; omega)
    cases s <;> first | exact absurd rfl hn | exact this
  cases s with
  | no => simp [b_is_spot, dSp]
  | top =>
    have hq := hq (by simp)
    rw [dSp] at hq ⊢
    simp at hq
    simp [b_is_spot, hq]
  | under c =>
    have hq := hq (by simp)
    have h : 97 ≤ c ∧ c ≤ 102 := h
    have e := is_label_spec F k (c := c) (st := st) h
    rw [dSp] at hq ⊢
    simp at hq
    simp [b_is_spot, hq, e]
  | kid i =>
    have hq := hq (by simp)
    have h : i ≤ 2 := h
    have e := is_number_spec F k (n := (i : Int)) (lo := 0) (hi := 2) (st := st) (by omega) (by omega)
    rw [dSp] at hq ⊢
    simp at hq
    simp [b_is_spot, hq, e]
theorem is_rule_spec (F k : Nat) {r : Ru} {st : Sto} (h : okR r) : pr.call F (k + 7) f_is_rule [dR r] st = .ok (.bl true) st := by
  have e1 := is_number_spec F (k + 5) (n := (r.s : Int)) (lo := 0) (hi := 5) (st := st) (by omega) (by have := h.s; omega)
  have e2 := is_spot_spec F (k + 4) (st := st) h.sp
  have e3 : pr.call F (k + 6) f_pattern_parts [dP r.p, .int 3] st = .ok (.int (szP r.p)) st := pattern_parts_spec F (k + 5) r.p 3 st h.ph (by omega) (by omega) h.p
  have e4 : pr.call F (k + 6) f_build_parts [dB r.b, dP r.p, .int 4] st = .ok (.int (szB r.b)) st := build_parts_spec F h.p (by have := h.ph; omega) (k + 4) r.b 4 st h.bh (by omega) (by omega) h.b
  have h1 := h.pz
  have h2 := h.bz
  have h3 : ¬ (7 : Int) < (szP r.p : Int) := by omega
  have h4 : (szB r.b : Int) ≤ 12 := by omega
  rw [u_is_rule]
  simp [b_is_rule, dR, e1, e2, e3, e4, h3, h4]
theorem enumD_map {α : Type} (u : α → D) : ∀ (l : List α) (k : Nat), enumD k (l.map u) = (l.zipIdx k).map fun p => D.tup [.int (p.2 : Nat), u p.1]
  | [], k => rfl
  | x :: xs, k => by rw [List.map_cons, enumD, enumD_map u xs, List.zipIdx_cons, List.map_cons]
theorem need_book_spec (F k : Nat) {rs : List Ru} {n : Nat} {st : Sto} (hb : st[n]? = some (.lst (rs.map dR))) (h : okBk rs) : pr.call F (k + 8) f_need_book [.loc n] st = .ok .non st := by
  obtain ⟨ρ', st', e1, rfl, a, b, rfl⟩ := for_inv (w := ⟨enumD 0 (rs.map dR), some (n, .lst (rs.map dR))⟩) (tg := .tup [1, 2]) (b := evSs (pr.cl F (k + 7)) F l_need_bookb) (ρ := [some (.loc n), none, none]) (st := st) (rs.zipIdx 0) (fun p => D.tup [.int (p.2 : Nat), dR p.1])
    (fun _ ρ s => s = st ∧ ∃ a b, ρ = [some (.loc n), a, b]) (enumD_map dR rs 0) (fun i ρ s hp => by rw [hp.1]; simp [Wk.stays, hb])
    (by
      rintro i ⟨r, j⟩ ρ s ha ⟨e1, v1, v2, e2⟩
      subst e1 e2
      have hm := List.mem_of_getElem? ha
      have hr := (List.mem_zipIdx hm).2.2
      have hj := (List.mem_zipIdx hm).2.1
      have hfew := h.few
      have hmem : r ∈ rs := by rw [hr]; exact List.getElem_mem _
      have e := is_rule_spec F k (r := r) (st := s) (h.ok r hmem)
      have h16 : ¬ (16 : Int) ≤ (j : Int) := by omega
      refine ⟨[some (.loc n), some (.int (j : Nat)), some (dR r)], [some (.loc n), some (.int (j : Nat)), some (dR r)], s, rfl, .inl ?_, rfl, _, _, rfl⟩
      simp [l_need_bookb, h16, e]) ⟨rfl, none, none, rfl⟩
  rw [u_need_book]
  simp at e1
  simp [b_need_book, l_need_book, hb, Wk.enum, e1]
end Law
namespace Law
open Z
theorem getD_T {ks : List T} {i : Nat} (h : i < ks.length) : ks.getD i (.node 0 []) = ks[i] := by rw [List.getD_eq_getElem?_getD, List.getElem?_eq_getElem h]; rfl
theorem getD_P {ks : List Pt} {i : Nat} (h : i < ks.length) : ks.getD i .any = ks[i] := by rw [List.getD_eq_getElem?_getD, List.getElem?_eq_getElem h]; rfl
theorem atI_T {ks : List T} {i : Nat} (h : i < ks.length) : L2.atI (dTs ks) (i : Int) = some (dT ks[i]) := atI_nat (by rw [dTs_map, List.getElem?_map, List.getElem?_eq_getElem h]; rfl)
theorem atI_P {ks : List Pt} {i : Nat} (h : i < ks.length) : L2.atI (dPs ks) (i : Int) = some (dP ks[i]) := atI_nat (by rw [dPs_map, List.getElem?_map, List.getElem?_eq_getElem h]; rfl)
theorem lenT (ks : List T) : (dTs ks).length = ks.length := by rw [dTs_map]; simp
theorem lenP (ks : List Pt) : (dPs ks).length = ks.length := by rw [dPs_map]; simp
theorem iLim_nat {n : Nat} (h : n ≤ 1000000) : iLim (n : Int) := by unfold iLim; omega
/-! ### the law's own fit -/
theorem law_fits_spec (F : Nat) : ∀ (k : Nat) (p : Pt) (t : T) (st : Sto), htP p ≤ k → okP p → okT t → pr.call F (k + 1) f_law_fits [dP p, dT t] st = .ok (.bl (fitsP p t)) st := by
  intro k
  induction k with
  | zero => intro p t st h1; have := htP_pos p; omega
  | succ k ih =>
    intro p t st h1 okp okt
    rw [u_law_fits]
    cases t with
    | node d ks =>
    cases p with
    | any => rw [dP, dT, fitsP]; simp [b_law_fits]
    | leaf =>
      rw [dP, dT, fitsP]
      simp [b_law_fits]
      cases ks <;> simp [dTs]
    | node c ps =>
      rw [okP] at okp
      rw [okT] at okt
      rw [htP] at h1
      rw [fitsP]
      by_cases hc : c = d
      · subst hc
        by_cases hl : ps.length = ks.length
        · have hcm : ev (pr.cl F (k + 1)) c_law_fits [some (dP (.node c ps)), some (dT (.node c ks)), none] st = .ok (.loc st.length) (st ++ [.lst (((List.range ks.length).filter fun i => !fitsP (ps.getD i .any) (ks.getD i (.node 0 []))).map fun (i : Nat) => D.int i)]) := by
            refine comp_rngf (n := ks.length) ?_ (by show _ ≤ 100000; omega) fun i hi => ?_
            · rw [dT]; simp [lenT, iLim_nat (by omega : ks.length ≤ 1000000)]
            · have e := ih ps[i] ks[i] st (by have := htPs_le (List.getElem_mem (by omega : i < ps.length)); omega) (okPs_mem okp.2.2 (List.getElem_mem _)) (okTs_mem okt.2.2 (List.getElem_mem hi))
              rw [getD_T hi, getD_P (by omega : i < ps.length), dP, dT]
              cases hf : fitsP ps[i] ks[i] <;> rw [hf] at e <;> simp [c_law_fitsi, c_law_fitse, atI_T hi, atI_P (by omega : i < ps.length), e]
          have hr := fitsPs_range hl
          simp at hr
          rw [dP, dT] at hcm ⊢
          simp [b_law_fits, lenT, lenP, hl, hcm, hr]
        · have hl' : ¬ ((ps.length : Int) = (ks.length : Int)) := by omega
          rw [dP, dT, fitsPs_len hl]
          simp [b_law_fits, lenT, lenP, hl']
      · rw [dP, dT]
        simp [b_law_fits, hc]
def plD1 (p : List Nat × T) : D := .tup [dPa p.1, dT p.2]
/-! ### the law's own places -/
theorem law_places_spec (F : Nat) : ∀ (k : Nat) (t : T) (st : Sto), ht t ≤ k → okT t → ht t ≤ 90 → sz t ≤ 90000 → pr.call F (k + 1) f_law_places [dT t] st = .ok (.loc st.length) (st ++ [.lst ((plT t).map plD1)]) := by
  intro k
  induction k with
  | zero => intro t st h1; have := ht_pos t; omega
  | succ k ih =>
    intro t st h1 ok hh hz
    rw [u_law_places]
    cases t with
    | node c ks =>
    rw [okT] at ok
    rw [ht] at h1 hh
    rw [sz] at hz
    -- the kids' turns
    have turns : ∀ (i : Nat) (us : List T) (A : List (List Nat × T)) (v : Option D) (g : Sto) (w : Wk), w.l = none → (∀ j, us[j]? = ks[i + j]?) → i + us.length = ks.length → A.length + szs us ≤ 95000 → ∃ v' g',
        loopF w (.name 2) (evSs (pr.cl F (k + 1)) F l_law_placesb) ((List.range' i us.length).map fun (j : Nat) => D.int j) [some (dT (.node c ks)), some (.loc st.length), v, none, none] (st ++ .lst (A.map plD1) :: g) =
          .ok .nx [some (dT (.node c ks)), some (.loc st.length), v', none, none] (st ++ .lst ((A ++ plTs i us).map plD1) :: g') := by
      intro i us
      induction us generalizing i with
      | nil => exact fun A v g w hw _ _ _ => ⟨v, g, by rw [plTs, List.append_nil]; exact loop_nil (stays_w hw)⟩
      | cons u us ihu =>
        intro A v g w hw hj hl hA
        rw [szs] at hA
        simp only [List.length_cons] at hl
        have hi : i < ks.length := by omega
        have hu : ks[i] = u := by
          have := hj 0
          rw [Nat.add_zero, List.getElem?_cons_zero, List.getElem?_eq_getElem hi] at this
          exact (Option.some.inj this).symm
        have hmem : u ∈ ks := hu ▸ List.getElem_mem hi
        have e := fun s1 => ih u s1 (by have := hts_le hmem; omega) (okTs_mem ok.2.2 hmem) (by have := hts_le hmem; omega) (by have := szs_mem hmem; omega)
        have hplen := plT_len u
        have hc : ∀ s1, ev (pr.cl F (k + 1)) c_law_places [some (dT (.node c ks)), some (.loc st.length), some (.int (i : Int)), none, none] s1 = .ok (.loc (s1.length + 1)) (s1 ++ [.lst ((plT u).map plD1), .lst (((plT u).map fun p => (i :: p.1, p.2)).map plD1)]) := fun s1 => by
          have := comp_map (C := pr.cl F (k + 1)) (ρ := [some (dT (.node c ks)), some (.loc st.length), some (.int (i : Int)), none, none]) (st := s1) (e := c_law_placese) (tg := .tup [3, 4]) (own := [3, 4]) (it := .it (.call f_law_places (.cons (.ix (.ix (.var 0) (.cst (.int 1))) (.var 2)) .nil))) (co := .none)
            (l := plT u) (u := plD1) (v := fun p => plD1 (i :: p.1, p.2)) (w := ⟨(plT u).map plD1, some (s1.length, .lst ((plT u).map plD1))⟩) (s1 := s1 ++ [.lst ((plT u).map plD1)]) (by
              rw [dT]; simp [atI_T hi, hu, e]) (by simp [Wk.stays]) rfl (by show _ ≤ 100000; have := szs_mem hmem; omega) (fun p hp => by
                have := (plT_mem hp).2
                have hs := hts_le hmem
                simp [c_law_placese, plD1, dPa, (by omega : p.1.length + 1 ≤ 100000), (by omega : 1 + p.1.length ≤ 100000)])
          show ev _ (.comp _ _ _ _ _) _ _ = _
          rw [this]
          simp [Nat.add_assoc]
        obtain ⟨v', g', e2⟩ := ihu (i + 1) (A ++ (plT u).map fun p => (i :: p.1, p.2)) (some (.int (i : Int))) (g ++ [.lst ((plT u).map plD1), .lst (((plT u).map fun p => (i :: p.1, p.2)).map plD1)]) w hw
          (fun j => by have := hj (j + 1); rw [List.getElem?_cons_succ] at this; rw [this]; congr 1; omega) (by omega) (by rw [List.length_append, List.length_map]; omega)
        refine ⟨v', g', ?_⟩
        rw [plTs, ← List.append_assoc, ← e2, List.length_cons, List.range'_succ, List.map_cons]
        refine loop_cons (stays_w hw) rfl ?_ rfl
        simp [l_law_placesb, hc, hplen, (by omega : A.length + sz u ≤ 100000), -List.map_map, Nat.add_assoc]
    obtain ⟨v', g', e⟩ := turns 0 ks [([], .node c ks)] none [] (rngW 0 ks.length) rfl (fun j => by rw [Nat.zero_add]) (by omega) (by simp; omega)
    have hx : (rngW 0 ks.length).xs = (List.range' 0 ks.length).map fun (j : Nat) => D.int j := by
      rw [← List.range_eq_range']
      show (List.range ks.length).map (fun (k : Nat) => D.int (0 + (k : Int))) = _
      exact List.map_congr_left fun a _ => by rw [Int.zero_add]
    rw [← hx] at e
    have hd : plD1 ([], .node c ks) = .tup [.tup [], dT (.node c ks)] := rfl
    rw [List.map_cons, List.map_nil, hd] at e
    have hcl : (locsC (.lst (([([], T.node c ks)] ++ plTs 0 ks).map plD1))).all (fun k => decide (k < st.length)) = true := by
      show (locsDs _).all _ = true
      rw [pls_locs (plDs_map fun p hp => ?_)]; rfl
      rcases List.mem_append.mp hp with hp | hp
      · rw [List.mem_singleton.mp hp]
        simp [plD1, plD, plDs, dPa_pl, dT_pl (.node c ks) ⟨ok.1, ok.2.1, ok.2.2⟩]
      · simp [plD1, plD, plDs, dPa_pl, dT_pl p.2 ((plTs_mem hp).1 ok.2.2)]
    have hfin := finish_newL st (.lst (([([], T.node c ks)] ++ plTs 0 ks).map plD1) :: g') (j := 0) rfl hcl
    rw [Nat.add_zero] at hfin
    rw [plT]
    rw [dT] at e ⊢
    simp [b_law_places, l_law_places, lenT, iLim_nat (by omega : ks.length ≤ 1000000), e]
    simp at hfin
    rw [hfin]
end Law
namespace Law
open Z
/-! ### the program's look at a place -/
def labD : Option Nat → D
  | none => .non
  | some c => .str [c]
theorem atI_last {α : Type} {x : α} {xs : List α} : L2.atI (xs ++ [x]) (-1) = some x := by
  unfold L2.atI L2.ixN
  have hl : (xs ++ [x]).length = xs.length + 1 := by simp
  have h1 : ((-1 : Int) + ((xs.length + 1 : Nat) : Int)).toNat = xs.length := by omega
  rw [hl, if_neg (by omega), if_pos (by omega), h1]
  simp
theorem eq_anyP {st : Sto} {p : Pt} (ok : okP p) (h : htP p ≤ 20) : eqD st (dP p) g_ANY = some (match p with | .any => true | _ => false) := by
  have h1 := dP_dep p
  have e := eqG_pl (st := st) (a := dP p) (b := g_ANY) (dP_pl p ok) (by decide) (by omega)
  cases p with
  | any => rw [dP] at e ⊢; exact e.trans (by simp)
  | leaf => rw [dP] at e ⊢; exact e.trans (by simp)
  | node c ks => rw [dP] at e ⊢; exact e.trans (by simp)
theorem eq_leafP {st : Sto} {p : Pt} (ok : okP p) (h : htP p ≤ 20) : eqD st (dP p) g_LEAF = some (match p with | .leaf => true | _ => false) := by
  have h1 := dP_dep p
  have e := eqG_pl (st := st) (a := dP p) (b := g_LEAF) (dP_pl p ok) (by decide) (by omega)
  cases p with
  | any => rw [dP] at e ⊢; exact e.trans (by simp)
  | leaf => rw [dP] at e ⊢; exact e.trans (by simp)
  | node c ks => rw [dP] at e ⊢; exact e.trans (by simp)
theorem fits_spec (F : Nat) : ∀ (k : Nat) (p : Pt) (t : T) (st : Sto), htP p ≤ k → htP p ≤ 20 → okP p → okT t → pr.call F (k + 1) f_fits [dP p, dT t] st = .ok (.bl (fitsP p t)) st := by
  intro k
  induction k with
  | zero => intro p t st h1; have := htP_pos p; omega
  | succ k ih =>
    intro p t st h1 hk okp okt
    have ea := eq_anyP (st := st) okp (by omega)
    have el := eq_leafP (st := st) okp (by omega)
    rw [u_fits]
    cases t with
    | node d ks =>
    cases p with
    | any => rw [dP] at ea el ⊢; rw [dT, fitsP]; simp at ea el; simp [b_fits, ea, el]
    | leaf =>
      rw [dP] at ea el ⊢
      rw [dT, fitsP]
      simp at ea el
      simp [b_fits, ea, el]
      cases ks <;> simp [dTs]
    | node c ps =>
      rw [okP] at okp
      rw [okT] at okt
      rw [htP] at h1
      rw [fitsP]
      by_cases hc : c = d
      · subst hc
        by_cases hl : ps.length = ks.length
        · have hcm : ev (pr.cl F (k + 1)) c_fits [some (dP (.node c ps)), some (dT (.node c ks)), none] st = .ok (.loc st.length) (st ++ [.lst (((List.range ks.length).filter fun i => !fitsP (ps.getD i .any) (ks.getD i (.node 0 []))).map fun (i : Nat) => D.int i)]) := by
            refine comp_rngf (n := ks.length) ?_ (by show _ ≤ 100000; omega) fun i hi => ?_
            · rw [dT]; simp [lenT, iLim_nat (by omega : ks.length ≤ 1000000)]
            · have e := ih ps[i] ks[i] st (by have := htPs_le (List.getElem_mem (by omega : i < ps.length)); omega) (by have := htPs_le (List.getElem_mem (by omega : i < ps.length)); rw [htP] at hk; omega) (okPs_mem okp.2.2 (List.getElem_mem _)) (okTs_mem okt.2.2 (List.getElem_mem hi))
              rw [getD_T hi, getD_P (by omega : i < ps.length), dP, dT]
              cases hf : fitsP ps[i] ks[i] <;> rw [hf] at e <;> simp [c_fitsi, c_fitse, atI_T hi, atI_P (by omega : i < ps.length), e]
          have hr := fitsPs_range hl
          simp at hr
          rw [dP, dT] at hcm
          rw [dP] at ea el ⊢
          rw [dT]
          simp at ea el
          simp [b_fits, lenT, lenP, hl, hcm, hr, ea, el]
        · have hl' : ¬ ((ps.length : Int) = (ks.length : Int)) := by omega
          rw [dP] at ea el ⊢
          rw [dT, fitsPs_len hl]
          simp at ea el
          simp [b_fits, lenT, lenP, hl', ea, el]
      · rw [dP] at ea el ⊢
        rw [dT]
        simp at ea el
        simp [b_fits, hc, ea, el]
theorem eq_lab {st : Sto} {a : Option Nat} {c : Nat} (hc : 97 ≤ c ∧ c ≤ 102) : eqD st (labD a) (.str [c]) = some (decide (a = some c)) := by
  cases a with
  | none =>
    have e := eqG_pl (st := st) (a := .non) (b := .str [c]) rfl (by simp [plD, LIM]; omega) (by decide)
    exact e.trans (by simp)
  | some d => simp [labD]
theorem is_at_spec (F k : Nat) {t0 : T} {p : List Nat} {sp : Sp} {st : Sto} (h : okSp sp) : pr.call F (k + 1) f_is_at [dSp sp, dPa p, labD (labA t0 p)] st = .ok (.bl (spotB t0 p sp)) st := by
  rw [u_is_at]
  have hq : sp ≠ .no → eqD st (dSp sp) (.tup [.str [116, 111, 112]]) = some (decide (dSp sp = .tup [.str [116, 111, 112]])) := fun hn => by
    have := eqG_pl (st := st) (a := dSp sp) (b := .tup [.str [116, 111, 112]]) (dSp_pl sp h) (by decide) (by have := dSp_dep sp; omega)
    cases sp <;> first | exact absurd rfl hn | exact this
  cases sp with
  | no => simp [b_is_at, dSp, spotB]
  | top => simp [b_is_at, dSp, spotB, dPa]
  | under c =>
    have h : 97 ≤ c ∧ c ≤ 102 := h
    simp [b_is_at, dSp, spotB, eq_lab h]
  | kid i =>
    rcases List.eq_nil_or_concat p with rfl | ⟨q, x, rfl⟩
    · simp [b_is_at, dSp, spotB, dPa]
    · have e : L2.atI ((q ++ [x]).map fun (i : Nat) => D.int i) (-1) = some (.int x) := by rw [List.map_append]; exact atI_last
      simp at e
      have e2 : ((x : Int) = (i : Int)) ↔ x = i := by omega
      simp [b_is_at, dSp, spotB, dPa, e, e2]
theorem at_loop (F k : Nat) {st : Sto} {w : Wk} (hw : w.l = none) {pd : D} : ∀ (p : List Nat) (t u : T) (v : Option D), subT t p = some u → okT t → ∃ v',
    loopF w (.name 2) (evSs (pr.cl F k) F l_at_placeb) (p.map fun (i : Nat) => D.int i) [some (dT t), some pd, v] st = .ok .nx [some (dT u), some pd, v'] st
  | [], t, u, v, h, ok => by rw [subT] at h; cases h; exact ⟨v, loop_nil (stays_w hw)⟩
  | i :: p, .node c ks, u, v, h, ok => by
    rw [subT] at h
    rw [okT] at ok
    cases hk : ks[i]? with
    | none => rw [hk] at h; cases h
    | some t1 =>
      rw [hk] at h
      have hi : i < ks.length := (List.getElem?_eq_some_iff.mp hk).1
      obtain ⟨v', e⟩ := at_loop F k hw (pd := pd) p t1 u (some (.int (i : Int))) h (okTs_mem ok.2.2 (List.mem_of_getElem? hk))
      refine ⟨v', ?_⟩
      rw [List.map_cons]
      refine loop_cons (stays_w hw) rfl (ρ2 := [some (dT t1), some pd, some (.int (i : Int))]) (st2 := st) ?_ e
      have e1 : L2.atI (dTs ks) (i : Int) = some (dT t1) := atI_nat (by rw [dTs_map, List.getElem?_map, hk]; rfl)
      have h1 : (i : Int) < (ks.length : Int) := by omega
      rw [dT]
      simp [l_at_placeb, lenT, e1, h1]
theorem at_place_spec (F k : Nat) {st : Sto} {p : List Nat} {t u : T} (h : subT t p = some u) (ok : okT t) : pr.call F (k + 1) f_at_place [dT t, dPa p] st = .ok (dT u) st := by
  obtain ⟨v', e⟩ := at_loop F k (st := st) (w := ⟨p.map fun (i : Nat) => D.int i, none⟩) rfl (pd := dPa p) p t u none h ok
  rw [u_at_place]
  have hc := dT_cl u
  rw [dPa] at e ⊢
  simp [b_at_place, l_at_place, e, hc]
theorem above_spec (F k : Nat) {st : Sto} {p : List Nat} {t u : T} (h : subT t p = some u) (ok : okT t) : pr.call F (k + 2) f_above [dT t, dPa p] st = .ok (labD (labA t p)) st := by
  rw [u_above]
  rcases List.eq_nil_or_concat p with rfl | ⟨q, x, rfl⟩
  · simp [b_above, dPa, labA, labD]
  · rw [List.concat_eq_append] at h ⊢
    rw [subT_app] at h
    cases hq : subT t q with
    | none => rw [hq] at h; cases h
    | some v =>
      have e := at_place_spec F k (st := st) (p := q) hq ok
      rw [dPa] at e
      cases v with
      | node c ks =>
        have e2 : labA t (q ++ [x]) = some c := by unfold labA; rw [if_neg (by simp), List.dropLast_concat, hq]; rfl
        rw [e2]
        rw [dT] at e
        simp [b_above, dPa, e, labD]
end Law
namespace Law
open Z
theorem fin_new1 {st : Sto} {c : Cell} (h : locsC c = []) : finish st (.ok (.loc st.length) (st ++ [c])) = .ok (.loc st.length) (st ++ [c]) := finish_newL st [c] (j := 0) rfl (by rw [h]; rfl)
theorem fin_newG {st x : Sto} {j : Nat} {c : Cell} (hc : x[j]? = some c) (h : locsC c = []) : finish st (.ok (.loc (st.length + j)) (st ++ x)) = .ok (.loc st.length) (st ++ [c]) := finish_newL st x hc (by rw [h]; rfl)
theorem getD_R {rs : List Ru} {i : Nat} {r : Ru} (h : rs[i]? = some r) : rs.getD i ru0 = r := by rw [List.getD_eq_getElem?_getD, h]; rfl
theorem rules_at_spec (F k : Nat) {rs : List Ru} {n s : Nat} {st : Sto} (hb : st[n]? = some (.lst (rs.map dR))) (h : okBk rs) {t0 u : T} (ok : okT u) {p : List Nat} :
    pr.call F (k + 5) f_rules_at [.loc n, .int s, dPa p, dT u, labD (labA t0 p)] st = .ok (.loc st.length) (st ++ [.lst ((rulesAt rs t0 u p s).map dN)]) := by
  have hn : n < st.length := (List.getElem?_eq_some_iff.mp hb).1
  obtain ⟨ρ', st', e1, a, b, rfl, rfl⟩ := for_inv (w := ⟨enumD 0 (rs.map dR), some (n, .lst (rs.map dR))⟩) (tg := .tup [6, 7]) (b := evSs (pr.cl F (k + 4)) F l_rules_atb)
    (ρ := [some (.loc n), some (.int s), some (dPa p), some (dT u), some (labD (labA t0 p)), some (.loc st.length), none, none]) (st := st ++ [.lst []]) (rs.zipIdx 0) (fun p => D.tup [.int (p.2 : Nat), dR p.1])
    (fun i ρ s' => ∃ a b, ρ = [some (.loc n), some (.int s), some (dPa p), some (dT u), some (labD (labA t0 p)), some (.loc st.length), a, b] ∧ s' = st ++ [.lst (((List.range i).filter fun j => ruleB t0 u p s (rs.getD j ru0)).map dN)]) (enumD_map dR rs 0)
    (fun i ρ s' hp => by obtain ⟨a, b, rfl, rfl⟩ := hp; simp [Wk.stays, List.getElem?_append_left hn, hb])
    (by
      rintro i ⟨r, j⟩ ρ s' ha ⟨a, b, rfl, rfl⟩
      rw [List.getElem?_zipIdx] at ha
      cases hr : rs[i]? with
      | none => rw [hr] at ha; cases ha
      | some r' =>
        rw [hr] at ha
        simp at ha
        obtain ⟨rfl, rfl⟩ := ha
        have hm := h.ok r' (List.mem_of_getElem? hr)
        have hil : i < rs.length := (List.getElem?_eq_some_iff.mp hr).1
        have hfew := h.few
        generalize hL : ((List.range i).filter fun j => ruleB t0 u p s (rs.getD j ru0)) = L
        have hLl : L.length ≤ i := by rw [← hL]; exact Nat.le_trans (List.length_filter_le _ _) (by simp)
        have e2 := is_at_spec F (k + 3) (t0 := t0) (p := p) (st := st ++ [.lst (L.map dN)]) hm.sp
        have e3 : pr.call F (k + 4) f_fits [dP r'.p, dT u] (st ++ [.lst (L.map dN)]) = .ok (.bl (fitsP r'.p u)) (st ++ [.lst (L.map dN)]) := by
          have hk := hm.ph
          exact fits_spec F (k + 3) r'.p u _ (by omega) (by omega) hm.p ok
        refine ⟨[some (.loc n), some (.int s), some (dPa p), some (dT u), some (labD (labA t0 p)), some (.loc st.length), some (.int (i : Nat)), some (dR r')], [some (.loc n), some (.int s), some (dPa p), some (dT u), some (labD (labA t0 p)), some (.loc st.length), some (.int (i : Nat)), some (dR r')],
          st ++ [.lst (((List.range (i + 1)).filter fun j => ruleB t0 u p s (rs.getD j ru0)).map dN)], rfl, .inl ?_, _, _, rfl, rfl⟩
        rw [List.range_succ, List.filter_append, hL]
        have e4 : ruleB t0 u p s (rs.getD i ru0) = (decide (r'.s = s) && spotB t0 p r'.sp && fitsP r'.p u) := by rw [getD_R hr]; rfl
        simp only [List.filter_cons, List.filter_nil, e4]
        have hs : ((r'.s : Int) = (s : Int)) ↔ r'.s = s := by omega
        by_cases h1 : r'.s = s
        · cases h2 : spotB t0 p r'.sp with
          | false => rw [h2] at e2; simp [l_rules_atb, dR, h1, e2]
          | true =>
            rw [h2] at e2
            cases h3 : fitsP r'.p u with
            | false => rw [h3] at e3; simp [l_rules_atb, dR, h1, e2, e3]
            | true => rw [h3] at e3; simp [l_rules_atb, dR, h1, e2, e3, (by omega : L.length < 100000), dN]
        · simp [l_rules_atb, dR, hs, h1]) ⟨none, none, rfl, rfl⟩
  rw [u_rules_at]
  have hw : wkD (.loc n) (st ++ [.lst []]) = .ok ⟨rs.map dR, some (n, .lst (rs.map dR))⟩ (st ++ [.lst []]) := by simp [wkD, List.getElem?_append_left hn, hb]
  rw [List.length_zipIdx] at e1
  have e5 : ((List.range rs.length).filter fun j => ruleB t0 u p s (rs.getD j ru0)) = rulesAt rs t0 u p s := rfl
  rw [e5] at e1
  simp at e1
  simp [b_rules_at, l_rules_at, hw, Wk.enum, e1]
  exact fin_new1 (by show locsDs _ = []; exact pls_locs (plDs_map fun _ _ => rfl))
/-- a do -/
def dDo (d : Nat × List Nat) : D := dB (.go d.1 d.2)
theorem dDo_eq (d : Nat × List Nat) : dDo d = .tup [.str [100, 111], .int d.1, dPa d.2] := by unfold dDo; rw [dB]
theorem dDo_pl (l : List (Nat × List Nat)) : plDs (l.map dDo) = true := plDs_map fun d _ => by
  rw [dDo_eq]
  have e : plDs (d.2.map fun (i : Nat) => D.int i) = true := plDs_map fun _ _ => rfl
  simp [dPa, plD, plDs, e, LIM]
mutual
theorem dos_len : ∀ b : Bd, (dosB b).length ≤ szB b
  | .go s p => by rw [dosB, szB]; simp
  | .node c ks => by rw [dosB, szB]; have := doss_len ks; omega
theorem doss_len : ∀ bs : List Bd, (dosBs bs).length ≤ szBs bs
  | [] => by rw [dosBs]; simp
  | b :: bs => by rw [dosBs, szBs, List.length_append]; have := dos_len b; have := doss_len bs; omega
end
theorem dos_of_spec (F : Nat) {P : Pt} : ∀ (k : Nat) (b : Bd) (st : Sto), htB b ≤ k → okB P b → szB b ≤ 1000 → pr.call F (k + 1) f_dos_of [dB b] st = .ok (.loc st.length) (st ++ [.lst ((dosB b).map dDo)]) := by
  intro k
  induction k with
  | zero => intro b st h1; have := htB_pos b; omega
  | succ k ih =>
    intro b st h1 ok hz
    rw [u_dos_of]
    cases b with
    | go s p =>
      rw [dB, dosB]
      simp [b_dos_of]
      have e := dDo_eq (s, p)
      simp only at e
      rw [e]
      exact fin_new1 (by
        have := pls_locs (dDo_pl [(s, p)])
        rw [List.map_cons, List.map_nil, e] at this
        exact this)
    | node c ks =>
      rw [okB] at ok
      rw [htB] at h1
      rw [szB] at hz
      have turns : ∀ (us : List Bd) (A : List (Nat × List Nat)) (v : Option D) (g : Sto) (w : Wk), w.l = none → (∀ u ∈ us, u ∈ ks) → A.length + szBs us ≤ 1000 → ∃ v' g',
          loopF w (.name 2) (evSs (pr.cl F (k + 1)) F l_dos_ofb) (us.map dB) [some (dB (.node c ks)), some (.loc st.length), v] (st ++ .lst (A.map dDo) :: g) =
            .ok .nx [some (dB (.node c ks)), some (.loc st.length), v'] (st ++ .lst ((A ++ dosBs us).map dDo) :: g') := by
        intro us
        induction us with
        | nil => exact fun A v g w hw _ _ => ⟨v, g, by rw [dosBs, List.append_nil]; exact loop_nil (stays_w hw)⟩
        | cons u us ihu =>
          intro A v g w hw hm hA
          rw [szBs] at hA
          have hmem := hm u List.mem_cons_self
          have e := fun s1 => ih u s1 (by have := htBs_le hmem; omega) (okBs_mem ok.2.2 hmem) (by omega)
          have hl := dos_len u
          obtain ⟨v', g', e2⟩ := ihu (A ++ dosB u) (some (dB u)) (g ++ [.lst ((dosB u).map dDo)]) w hw (fun x hx => hm x (List.mem_cons_of_mem _ hx)) (by rw [List.length_append]; omega)
          refine ⟨v', g', ?_⟩
          rw [dosBs, ← List.append_assoc, ← e2, List.map_cons]
          refine loop_cons (stays_w hw) rfl ?_ rfl
          have hlt : A.length + (dosB u).length ≤ 100000 := by omega
          simp [l_dos_ofb, e, hlt]
      obtain ⟨v', g', e⟩ := turns ks [] none [] ⟨ks.map dB, none⟩ rfl (fun _ h => h) (by simp; omega)
      rw [dB] at e ⊢
      rw [dosB]
      have hc : ¬ ([c] : List Nat) = [100, 111] := by simp
      simp [dBs_map] at e
      simp [b_dos_of, l_dos_of, dBs_map, e]
      exact fin_newG (st := st) (x := .lst ((dosBs ks).map dDo) :: g') (j := 0) (c := .lst ((dosBs ks).map dDo)) rfl (pls_locs (dDo_pl _))
end Law
namespace Law
open Z
/-! ### the teller -/
/-- its store -/
def tst (s : Sto) (n : Nat) (t0 : T) (kn zs : List (D × D)) (g : Sto) : Sto :=
  s ++ (.ins c_Telling [(n_book, .loc n), (n_tree, dT t0), (n_known, .loc (s.length + 1)), (n_sizes, .loc (s.length + 2))] :: .dct kn :: .dct zs :: g)
section
variable {a b c d : D}
@[simp] theorem lk_book : List.lookup n_book [(n_book, a), (n_tree, b), (n_known, c), (n_sizes, d)] = some a := (rfl)
@[simp] theorem lk_tree : List.lookup n_tree [(n_book, a), (n_tree, b), (n_known, c), (n_sizes, d)] = some b := (rfl)
@[simp] theorem lk_known : List.lookup n_known [(n_book, a), (n_tree, b), (n_known, c), (n_sizes, d)] = some c := (rfl)
@[simp] theorem lk_sizes : List.lookup n_sizes [(n_book, a), (n_tree, b), (n_known, c), (n_sizes, d)] = some d := (rfl)
@[simp] theorem lk_reach : List.lookup n_reach [(n_book, a), (n_tree, b), (n_known, c), (n_sizes, d)] = none := (rfl)
@[simp] theorem lk_rule : List.lookup n_rule [(n_book, a), (n_tree, b), (n_known, c), (n_sizes, d)] = none := (rfl)
@[simp] theorem lk_parts : List.lookup n_parts [(n_book, a), (n_tree, b), (n_known, c), (n_sizes, d)] = none := (rfl)
@[simp] theorem lk_built : List.lookup n_built [(n_book, a), (n_tree, b), (n_known, c), (n_sizes, d)] = none := (rfl)
end
theorem doss_flat : ∀ bs : List Bd, dosBs bs = bs.flatMap dosB
  | [] => by rw [dosBs]; rfl
  | b :: bs => by rw [dosBs, List.flatMap_cons, doss_flat bs]
section
variable {F k n : Nat} {s : Sto} {t0 : T} {kn zs : List (D × D)} {g : Sto} {rs : List Ru}
@[simp high] theorem tst_0 : (tst s n t0 kn zs g)[s.length]? = some (.ins c_Telling [(n_book, .loc n), (n_tree, dT t0), (n_known, .loc (s.length + 1)), (n_sizes, .loc (s.length + 2))]) := by unfold tst; simp
@[simp high] theorem tst_1 : (tst s n t0 kn zs g)[s.length + 1]? = some (.dct kn) := by unfold tst; simp
@[simp high] theorem tst_2 : (tst s n t0 kn zs g)[s.length + 2]? = some (.dct zs) := by unfold tst; simp
@[simp] theorem tst_len : (tst s n t0 kn zs g).length = s.length + 3 + g.length := by unfold tst; simp; omega
@[simp] theorem tst_app {x : Sto} : tst s n t0 kn zs g ++ x = tst s n t0 kn zs (g ++ x) := by unfold tst; simp
@[simp] theorem tst_set1 {c : List (D × D)} : (tst s n t0 kn zs g).set (s.length + 1) (.dct c) = tst s n t0 c zs g := by unfold tst; simp
@[simp] theorem tst_set2 {c : List (D × D)} : (tst s n t0 kn zs g).set (s.length + 2) (.dct c) = tst s n t0 kn c g := by unfold tst; simp
@[simp high] theorem tst_g {j : Nat} : (tst s n t0 kn zs g)[s.length + 3 + j]? = g[j]? := by
  unfold tst
  rw [Nat.add_assoc, end_n, Nat.add_comm 3 j]
  simp
theorem tst_old {j : Nat} (h : j < s.length) : (tst s n t0 kn zs g)[j]? = s[j]? := by unfold tst; exact List.getElem?_append_left h
theorem tst_bk (hb : s[n]? = some (.lst (rs.map dR))) : (tst s n t0 kn zs g)[n]? = some (.lst (rs.map dR)) := by
  rw [tst_old (List.getElem?_eq_some_iff.mp hb).1, hb]
/-- what is known holds no place of the store -/
structure Cln (kn : List (D × D)) : Prop where
  k : plDs (kn.map (·.1)) = true
  v : plDs (kn.map (·.2)) = true
theorem clD_of : ∀ {kn : List (D × D)} {m : Nat}, Cln kn → clC m (.dct kn) = true := fun h => by
  show (clDs _ _ && clDs _ _) = true
  rw [pls_cl h.k, pls_cl h.v]; rfl
theorem tst_oldOk {kn' zs' : List (D × D)} {x : Sto} (h1 : Cln kn') (h2 : Cln zs') : OldOk (tst s n t0 kn zs g) (tst s n t0 kn' zs' (g ++ x)) := fun i hi => by
  rw [tst_len] at hi
  by_cases c0 : i < s.length
  · left; rw [tst_old c0, tst_old c0]
  by_cases c1 : i = s.length
  · left; subst c1; simp
  by_cases c2 : i = s.length + 1
  · right; subst c2; simp [clD_of h1]
  by_cases c3 : i = s.length + 2
  · right; subst c3; simp [clD_of h2]
  · left
    obtain ⟨j, rfl⟩ : ∃ j, i = s.length + 3 + j := ⟨i - (s.length + 3), by omega⟩
    simp
    exact List.getElem?_append_left (by omega)
theorem tst_take {x : Sto} : (tst s n t0 kn zs (g ++ x)).take (s.length + 3 + g.length) = tst s n t0 kn zs g := by
  rw [← tst_app, List.take_append_of_le_length (by simp), List.take_of_length_le (by simp)]
theorem fin_tst {d : D} {kn' zs' : List (D × D)} {x : Sto} (h1 : Cln kn') (h2 : Cln zs') (hd : clD 0 d = true) : finish (tst s n t0 kn zs g) (.ok d (tst s n t0 kn' zs' (g ++ x))) = .ok d (tst s n t0 kn' zs' g) := by
  rw [finish_old (tst_oldOk h1 h2) (all_mono (Nat.zero_le _) (clD_locs hd)), tst_len, tst_take]
theorem fin_tst0 {d : D} {kn' zs' : List (D × D)} (h1 : Cln kn') (h2 : Cln zs') (hd : clD 0 d = true) : finish (tst s n t0 kn zs g) (.ok d (tst s n t0 kn' zs' g)) = .ok d (tst s n t0 kn' zs' g) := by
  have := fin_tst (s := s) (n := n) (t0 := t0) (kn := kn) (zs := zs) (g := g) (x := []) h1 h2 hd
  rwa [List.append_nil] at this
theorem fin_tst_new {d : D} {x : Sto} (hd : clD 0 d = true) : finish (tst s n t0 kn zs g) (.ok d (tst s n t0 kn zs (g ++ x))) = .ok d (tst s n t0 kn zs g) := by
  rw [← tst_app]; exact finish_new _ _ _ hd
theorem fin_tst_exc {c : Nat} {kn' zs' : List (D × D)} {x : Sto} (h1 : Cln kn') (h2 : Cln zs') : finish (tst s n t0 kn zs g) (.exc ⟨c, none⟩ (tst s n t0 kn' zs' (g ++ x))) = .exc ⟨c, none⟩ (tst s n t0 kn' zs' g) := by
  simp only [finish]
  rw [if_pos ⟨rfl, tst_oldOk h1 h2⟩, tst_len, tst_take]
theorem rule_spec' (hb : s[n]? = some (.lst (rs.map dR))) (h : okBk rs) (ok : okT t0) {p : List Nat} {u : T} (hu : subT t0 p = some u) {st : Nat} :
    pr.call F (k + 6) f_Telling_rule [.loc s.length, dPa p, .int st] (tst s n t0 kn zs g) = .ok (match ruleAt rs t0 p st with | some r => .int r | none => .non) (tst s n t0 kn zs g) := by
  have hbk := tst_bk (kn := kn) (zs := zs) (g := g) (t0 := t0) hb
  have e1 := at_place_spec F (k + 4) (st := tst s n t0 kn zs g) hu ok
  have e2 := above_spec F (k + 3) (st := tst s n t0 kn zs g) hu ok
  have e3 := rules_at_spec F k (s := st) hbk h (t0 := t0) (u := u) (subT_ok hu ok).1 (p := p)
  rw [u_Telling_rule]
  have e4 : ruleAt rs t0 p st = (rulesAt rs t0 u p st).head? := by unfold ruleAt; rw [hu]
  rw [e4]
  cases hL : rulesAt rs t0 u p st with
  | nil =>
    rw [hL] at e3
    simp at e3
    simp [b_Telling_rule, e1, e2, e3]
    exact fin_tst_new (d := .non) rfl
  | cons r L =>
    rw [hL] at e3
    simp at e3
    simp [b_Telling_rule, e1, e2, e3]
    exact fin_tst_new (d := .int r) rfl
theorem key_app (p q : List Nat) (st : Nat) : D.tup [D.tup ((p.map fun (i : Nat) => D.int i) ++ q.map fun (i : Nat) => D.int i), .int st] = kP (p ++ q) st := by simp [kP, dPa]
theorem kP_eq (p : List Nat) (st : Nat) : D.tup [D.tup (p.map fun (i : Nat) => D.int i), .int st] = kP p st := rfl
theorem ix_dct {st : Sto} {m : Nat} {kvs : List (D × D)} {p : List Nat} {q : Nat} {d : D} (h : st[m]? = some (.dct kvs)) (h2 : dGet kvs (kP p q) = some d) : ixD (.loc m) (kP p q) st = .ok d st := by
  have hk := kP_key p q
  unfold kP at h2 hk ⊢
  unfold ixD
  simp only [h, hk, if_true, h2]
  rfl
theorem szs_lay {g0 : Nat → List Nat → T} : ∀ bs : List Bd, (bs.map fun b => (sz (layB g0 b) : Int)).sum = (szs (layBs g0 bs) : Int)
  | [] => rfl
  | b :: bs => by rw [List.map_cons, List.sum_cons, szs_lay bs, layBs, szs]; omega
theorem parts_spec {P : Pt} {p : List Nat} (hp : p.length ≤ 50) {g0 : Nat → List Nat → T} : ∀ (k : Nat) (b : Bd), htB b ≤ k → okB P b → (∀ d ∈ dosB b, dGet zs (kP (p ++ d.2) d.1) = some (.int (sz (g0 d.1 d.2)))) →
    pr.call F (k + 1) f_Telling_parts [.loc s.length, dB b, dPa p] (tst s n t0 kn zs g) = .ok (.int (sz (layB g0 b))) (tst s n t0 kn zs g) := by
  intro k
  induction k with
  | zero => intro b h1; have := htB_pos b; omega
  | succ k ih =>
    intro b h1 ok hd
    rw [u_Telling_parts]
    cases b with
    | go st q =>
      rw [okB] at ok
      have e := ix_dct (st := tst s n t0 kn zs g) tst_2 (hd (st, q) (by rw [dosB]; simp))
      simp only at e
      rw [dB, layB]
      simp [b_Telling_parts, dPa, key_app, e, (by omega : p.length + q.length ≤ 100000)]
    | node c ks =>
      rw [okB] at ok
      rw [htB] at h1
      rw [dosB] at hd
      have hcm : ev (pr.cl F (k + 1)) c_Telling_parts [some (.loc s.length), some (dB (.node c ks)), some (dPa p), none] (tst s n t0 kn zs g) = .ok (.loc (tst s n t0 kn zs g).length) (tst s n t0 kn zs g ++ [.lst (ks.map fun b => D.int (sz (layB g0 b)))]) := by
        refine comp_map (u := dB) (w := ⟨ks.map dB, none⟩) (s1 := tst s n t0 kn zs g) ?_ rfl rfl (by show _ ≤ 100000; omega) fun b hb => ?_
        · rw [dB]; simp [dBs_map]
        · have e := ih b (by have := htBs_le hb; omega) (okBs_mem ok.2.2 hb) fun d hd' => hd d (by rw [doss_flat]; exact List.mem_flatMap.mpr ⟨b, hb, hd'⟩)
          simp [c_Telling_partse, e]
      rw [dB] at hcm ⊢
      rw [layB, sz]
      simp at hcm
      simp [b_Telling_parts, hcm, ints_of, szs_lay]
      exact fin_tst_new (d := .int _) rfl
theorem dT_lay {g0 : Nat → List Nat → T} (bs : List Bd) : dTs (layBs g0 bs) = bs.map fun b => dT (layB g0 b) := by rw [lays_map, dTs_map, List.map_map]; rfl
theorem built_spec {P : Pt} {p : List Nat} (hp : p.length ≤ 50) {g0 : Nat → List Nat → T} : ∀ (k : Nat) (b : Bd), htB b ≤ k → okB P b → (∀ d ∈ dosB b, dGet kn (kP (p ++ d.2) d.1) = some (dT (g0 d.1 d.2))) →
    pr.call F (k + 1) f_Telling_built [.loc s.length, dB b, dPa p] (tst s n t0 kn zs g) = .ok (dT (layB g0 b)) (tst s n t0 kn zs g) := by
  intro k
  induction k with
  | zero => intro b h1; have := htB_pos b; omega
  | succ k ih =>
    intro b h1 ok hd
    rw [u_Telling_built]
    cases b with
    | go st q =>
      rw [okB] at ok
      have e := ix_dct (st := tst s n t0 kn zs g) tst_1 (hd (st, q) (by rw [dosB]; simp))
      simp only at e
      rw [dB, layB]
      have hc := dT_cl (g0 st q)
      simp [b_Telling_built, dPa, key_app, e, (by omega : p.length + q.length ≤ 100000), hc]
    | node c ks =>
      rw [okB] at ok
      rw [htB] at h1
      rw [dosB] at hd
      have hcm : ev (pr.cl F (k + 1)) c_Telling_built [some (.loc s.length), some (dB (.node c ks)), some (dPa p), none] (tst s n t0 kn zs g) = .ok (.loc (tst s n t0 kn zs g).length) (tst s n t0 kn zs g ++ [.lst (ks.map fun b => dT (layB g0 b))]) := by
        refine comp_map (u := dB) (w := ⟨ks.map dB, none⟩) (s1 := tst s n t0 kn zs g) ?_ rfl rfl (by show _ ≤ 100000; omega) fun b hb => ?_
        · rw [dB]; simp [dBs_map]
        · have e := ih b (by have := htBs_le hb; omega) (okBs_mem ok.2.2 hb) fun d hd' => hd d (by rw [doss_flat]; exact List.mem_flatMap.mpr ⟨b, hb, hd'⟩)
          simp [c_Telling_builte, e]
      have hc := dT_cl (layB g0 (.node c ks))
      rw [dB] at hcm ⊢
      rw [layB, dT, dT_lay] at hc ⊢
      simp at hcm
      simp [b_Telling_built, hcm]
      exact fin_tst_new hc
end
end Law
namespace Law
open Z
/-! ### what is known so far -/
theorem nodup_len {α : Type} [DecidableEq α] : ∀ {l m : List α}, l.Nodup → (∀ x ∈ l, x ∈ m) → l.length ≤ m.length
  | [], m, _, _ => Nat.zero_le _
  | x :: l, m, h, hs => by
    rw [List.nodup_cons] at h
    have hx := hs x List.mem_cons_self
    have := nodup_len (l := l) (m := m.erase x) h.2 fun y hy => (List.mem_erase_of_ne (fun e => h.1 (by rw [← e]; exact hy))).mpr (hs y (List.mem_cons_of_mem _ hy))
    rw [List.length_erase_of_mem hx] at this
    have hp : 0 < m.length := List.length_pos_of_mem hx
    rw [List.length_cons]; omega
theorem dGet_none {kn : List (D × D)} {k : D} : dGet kn k = none ↔ k ∉ kn.map (·.1) := by
  induction kn with
  | nil => simp [dGet_nil]
  | cons a r ih =>
    obtain ⟨x, y⟩ := a
    rw [dGet_cons, List.map_cons, List.mem_cons, not_or]
    by_cases hx : x = k
    · simp [hx]
    · rw [if_neg hx, ih]
      exact ⟨fun h => ⟨fun e => hx e.symm, h⟩, fun h => h.2⟩
theorem dPut_fst {kn : List (D × D)} {k v : D} : (dPut kn k v).map (·.1) = if (dGet kn k).isSome = true then kn.map (·.1) else kn.map (·.1) ++ [k] := by
  unfold dPut
  split
  · rw [List.map_map]
    refine List.map_congr_left fun p _ => ?_
    simp only [Function.comp]
    split <;> rfl
  · rw [List.map_append]; rfl
theorem plDs_iff {ds : List D} : plDs ds = true ↔ ∀ d ∈ ds, plD d = true := by
  induction ds with
  | nil => simp [plDs]
  | cons d ds ih => rw [plDs, Bool.and_eq_true, ih]; simp
/-- a dict with keys of A -/
structure Kd (A : List D) (kn : List (D × D)) : Prop where
  nd : (kn.map (·.1)).Nodup
  sub : ∀ x ∈ kn.map (·.1), x ∈ A
  cl : Cln kn
theorem Kd.len {A : List D} {kn : List (D × D)} (h : Kd A kn) : kn.length ≤ A.length := by have := nodup_len h.nd h.sub; rwa [List.length_map] at this
theorem Kd.nil {A : List D} : Kd A [] := ⟨List.nodup_nil, fun x hx => (by cases hx), ⟨rfl, rfl⟩⟩
theorem Kd.put {A : List D} {kn : List (D × D)} {k v : D} (h : Kd A kn) (hk : k ∈ A) (pk : plD k = true) (pv : plD v = true) : Kd A (dPut kn k v) := by
  have e := dPut_fst (kn := kn) (k := k) (v := v)
  refine ⟨?_, ?_, ⟨?_, plDs_iff.mpr fun d hd => ?_⟩⟩
  · rw [e]
    split
    · exact h.nd
    · rename_i hn
      have h2 : k ∉ kn.map (·.1) := dGet_none.mp (by simpa using hn)
      rw [List.nodup_append]
      exact ⟨h.nd, by simp, fun a ha b hb hab => by rw [List.mem_singleton] at hb; subst hb hab; exact h2 ha⟩
  · rw [e]
    split
    · exact h.sub
    · intro x hx
      rcases List.mem_append.mp hx with hx | hx
      · exact h.sub x hx
      · rw [List.mem_singleton.mp hx]; exact hk
  · rw [e]
    split
    · exact h.cl.k
    · rw [plDs_iff]
      intro x hx
      rcases List.mem_append.mp hx with hx | hx
      · exact plDs_iff.mp h.cl.k x hx
      · rw [List.mem_singleton.mp hx]; exact pk
  · rcases dPut_keys hd with rfl | hd
    · exact pv
    · exact plDs_iff.mp h.cl.v d hd
/-- all places and states -/
def allK (t0 : T) : List D := (plT t0).flatMap fun q => (List.range 6).map fun s => kP q.1 s
theorem allK_len (t0 : T) : (allK t0).length = 6 * sz t0 := by
  unfold allK
  have : ∀ l : List (List Nat × T), (l.flatMap fun q => (List.range 6).map fun s => kP q.1 s).length = 6 * l.length := by
    intro l
    induction l with
    | nil => rfl
    | cons a l ih => rw [List.flatMap_cons, List.length_append, ih]; simp; omega
  rw [this, plT_len]
mutual
theorem sub_pl : ∀ {t : T} {p : List Nat} {u : T}, subT t p = some u → (p, u) ∈ plT t
  | .node c ks, [], u, h => by rw [subT] at h; cases h; rw [plT]; exact List.mem_cons_self
  | .node c ks, i :: p, u, h => by
    rw [subT] at h
    cases hk : ks[i]? with
    | none => rw [hk] at h; cases h
    | some v =>
      rw [hk] at h
      rw [plT]
      refine List.mem_cons_of_mem _ ?_
      have := subs_pl (j := 0) hk h
      rwa [Nat.zero_add] at this
theorem subs_pl : ∀ {ks : List T} {j i : Nat} {p : List Nat} {u v : T}, ks[i]? = some v → subT v p = some u → ((j + i) :: p, u) ∈ plTs j ks
  | [], j, i, p, u, v, h, hv => by simp at h
  | k :: ks, j, 0, p, u, v, h, hv => by
    simp at h; subst h
    rw [plTs]
    exact List.mem_append_left _ (List.mem_map.mpr ⟨(p, u), sub_pl hv, rfl⟩)
  | k :: ks, j, i + 1, p, u, v, h, hv => by
    rw [List.getElem?_cons_succ] at h
    rw [plTs]
    refine List.mem_append_right _ ?_
    have := subs_pl (j := j + 1) h hv
    rwa [show j + 1 + i = j + (i + 1) by omega] at this
end
theorem kP_all {t0 : T} {p : List Nat} {u : T} {s : Nat} (h : subT t0 p = some u) (hs : s ≤ 5) : kP p s ∈ allK t0 :=
  List.mem_flatMap.mpr ⟨(p, u), sub_pl h, List.mem_map.mpr ⟨s, List.mem_range.mpr (by omega), rfl⟩⟩
/-- what is known is what comes -/
structure KI (rs : List Ru) (t0 : T) (kn zs : List (D × D)) : Prop where
  kd : Kd (allK t0) kn
  zd : Kd (allK t0) zs
  val : ∀ p s v, dGet kn (kP p s) = some v → come rs t0 p s ≠ .big ∧ v = dRes (come rs t0 p s)
  siz : ∀ p s v u, dGet kn (kP p s) = some v → come rs t0 p s = .tr u → dGet zs (kP p s) = some (.int (sz u))
theorem dT_pl {t : T} (ok : okT t) : plD (dT t) = true := Z.dT_pl t ok
theorem dRes_pl {rs : List Ru} (hb : okBk rs) {t0 : T} (hh : ht t0 ≤ 12) {p : List Nat} {s : Nat} {u : T} (hu : subT t0 p = some u) : plD (dRes (come rs t0 p s)) = true := by
  cases e : come rs t0 p s with
  | big => rfl
  | non => rfl
  | tr v => exact dT_pl (come_tr hb hh _ (Nat.le_refl _) hu e).1
/-- a new thing known -/
theorem KI.put {rs : List Ru} (hb : okBk rs) {t0 : T} (hh : ht t0 ≤ 12) {kn zs : List (D × D)} (h : KI rs t0 kn zs) {p : List Nat} {s : Nat} {u : T} (hu : subT t0 p = some u) (hs : s ≤ 5) (hn : come rs t0 p s ≠ .big) (hz : ∀ v, come rs t0 p s = .tr v → dGet zs (kP p s) = some (.int (sz v))) (hp : p.length ≤ 1000) :
    KI rs t0 (dPut kn (kP p s) (dRes (come rs t0 p s))) zs := by
  refine ⟨h.kd.put (kP_all hu hs) (kP_pl p s hp) (dRes_pl hb hh hu), h.zd, fun p' s' v e => ?_, fun p' s' v u' e e2 => ?_⟩
  · rw [dGet_put] at e
    split at e
    · rename_i hk
      obtain ⟨rfl, rfl⟩ := kP_inj hk
      exact ⟨hn, (Option.some.inj e).symm⟩
    · exact h.val p' s' v e
  · rw [dGet_put] at e
    split at e
    · rename_i hk
      obtain ⟨rfl, rfl⟩ := kP_inj hk
      exact hz u' e2
    · exact h.siz p' s' v u' e e2
theorem KI.putz {rs : List Ru} {t0 : T} {kn zs : List (D × D)} (h : KI rs t0 kn zs) {p : List Nat} {s : Nat} {u v : T} (hu : subT t0 p = some u) (hs : s ≤ 5) (e : come rs t0 p s = .tr v) (hp : p.length ≤ 1000) :
    KI rs t0 kn (dPut zs (kP p s) (.int (sz v))) := by
  refine ⟨h.kd, h.zd.put (kP_all hu hs) (kP_pl p s hp) rfl, h.val, fun p' s' w u' e1 e2 => ?_⟩
  rw [dGet_put]
  split
  · rename_i hk
    obtain ⟨rfl, rfl⟩ := kP_inj hk
    rw [e] at e2; cases e2; rfl
  · exact h.siz p' s' w u' e1 e2
/-- what is known stays -/
def Sub (kn kn' : List (D × D)) : Prop := ∀ p s v, dGet kn (kP p s) = some v → dGet kn' (kP p s) = some v
theorem Sub.refl {kn : List (D × D)} : Sub kn kn := fun _ _ _ h => h
theorem Sub.trans {a b c : List (D × D)} (h : Sub a b) (h' : Sub b c) : Sub a c := fun p s v e => h' p s v (h p s v e)
theorem KI.sub {rs : List Ru} {t0 : T} {kn zs : List (D × D)} (h : KI rs t0 kn zs) {p : List Nat} {s : Nat} : Sub kn (dPut kn (kP p s) (dRes (come rs t0 p s))) := fun p' s' v e => by
  rw [dGet_put]
  split
  · rename_i hk
    obtain ⟨rfl, rfl⟩ := kP_inj hk
    rw [(h.val _ _ _ e).2]
  · exact e
@[simp] theorem SR_turn_exc (e : Ex) (ρ : Env) (st : Sto) (f : Env → Sto → SR) : (SR.exc e ρ st).turn f = .exc e ρ st := (rfl)
theorem loop_exc {w : Wk} {tg : IT} {b : Env → Sto → SR} {x : D} {xs : List D} {ρ ρ1 ρ2 : Env} {st st2 : Sto} {e : Ex} (hw : w.stays st = true) (ha : asgT ρ tg x = some ρ1) (hb : b ρ1 st = .exc e ρ2 st2) : loopF w tg b (x :: xs) ρ st = .exc e ρ2 st2 := by
  unfold loopF
  rw [if_pos hw, ha]
  simp only [hb, SR_turn_exc]
section
variable {F K n : Nat} {s : Sto} {t0 : T} {rs : List Ru} {p : List Nat}
/-- what a reaching does -/
def RchP (pr : Prog) (F K n : Nat) (s : Sto) (rs : List Ru) (t0 : T) (p : List Nat) (st : Nat) : Prop := ∀ (kn zs : List (D × D)) (g : Sto), KI rs t0 kn zs → ∃ kn' zs', KI rs t0 kn' zs' ∧ Sub kn kn' ∧
  ((come rs t0 p st = .big ∧ pr.call F K f_Telling_reach [.loc s.length, dPa p, .int st] (tst s n t0 kn zs g) = .exc ⟨c_TooBig, none⟩ (tst s n t0 kn' zs' g)) ∨
   (come rs t0 p st ≠ .big ∧ dGet kn' (kP p st) = some (dRes (come rs t0 p st)) ∧ pr.call F K f_Telling_reach [.loc s.length, dPa p, .int st] (tst s n t0 kn zs g) = .ok .non (tst s n t0 kn' zs' g)))
theorem dos_loop {w : Wk} {G : Sto} (hw : ∀ kn zs, w.stays (tst s n t0 kn zs G) = true) (hp : p.length ≤ 50) {v2 v3 v4 v5 v6 : Option D} : ∀ (us : List (Nat × List Nat)) (kn zs : List (D × D)) (v7 : Option D), (∀ d ∈ us, d.2.length ≤ 50 ∧ RchP pr F K n s rs t0 (p ++ d.2) d.1) → KI rs t0 kn zs →
    ∃ kn' zs', KI rs t0 kn' zs' ∧ Sub kn kn' ∧
      (((∃ d ∈ us, come rs t0 (p ++ d.2) d.1 = .big) ∧ ∃ ρ', loopF w (.name 7) (evSs (pr.cl F K) F l_Telling_reachb) (us.map dDo) [some (.loc s.length), some (dPa p), v2, v3, v4, v5, v6, v7] (tst s n t0 kn zs G) = .exc ⟨c_TooBig, none⟩ ρ' (tst s n t0 kn' zs' G)) ∨
       ((∀ d ∈ us, come rs t0 (p ++ d.2) d.1 ≠ .big ∧ dGet kn' (kP (p ++ d.2) d.1) = some (dRes (come rs t0 (p ++ d.2) d.1))) ∧ ∃ v7', loopF w (.name 7) (evSs (pr.cl F K) F l_Telling_reachb) (us.map dDo) [some (.loc s.length), some (dPa p), v2, v3, v4, v5, v6, v7] (tst s n t0 kn zs G) = .ok .nx [some (.loc s.length), some (dPa p), v2, v3, v4, v5, v6, v7'] (tst s n t0 kn' zs' G)))
  | [], kn, zs, v7, _, hk => ⟨kn, zs, hk, Sub.refl, .inr ⟨fun d hd => (by cases hd), v7, loop_nil (hw kn zs)⟩⟩
  | d :: us, kn, zs, v7, hR, hk => by
    obtain ⟨hl, R⟩ := hR d List.mem_cons_self
    obtain ⟨kn1, zs1, h1, h2, h3⟩ := R kn zs G hk
    rw [List.map_cons]
    have ha : asgT [some (.loc s.length), some (dPa p), v2, v3, v4, v5, v6, v7] (.name 7) (dDo d) = some [some (.loc s.length), some (dPa p), v2, v3, v4, v5, v6, some (dDo d)] := rfl
    have hlen : p.length + d.2.length ≤ 100000 := by omega
    rcases h3 with ⟨e1, e2⟩ | ⟨e1, e3, e2⟩
    · refine ⟨kn1, zs1, h1, h2, .inl ⟨⟨d, List.mem_cons_self, e1⟩, _, loop_exc (ρ2 := [some (.loc s.length), some (dPa p), v2, v3, v4, v5, v6, some (dDo d)]) (hw kn zs) ha ?_⟩⟩
      · simp [dPa] at e2
        simp [l_Telling_reachb, dDo_eq, dPa, hlen, e2]
    · obtain ⟨kn2, zs2, g1, g2, g3⟩ := dos_loop hw hp (v2 := v2) (v3 := v3) (v4 := v4) (v5 := v5) (v6 := v6) us kn1 zs1 (some (dDo d)) (fun d' hd => hR d' (List.mem_cons_of_mem _ hd)) h1
      have hb : evSs (pr.cl F K) F l_Telling_reachb [some (.loc s.length), some (dPa p), v2, v3, v4, v5, v6, some (dDo d)] (tst s n t0 kn zs G) = .ok .nx [some (.loc s.length), some (dPa p), v2, v3, v4, v5, v6, some (dDo d)] (tst s n t0 kn1 zs1 G) := by
        simp [dPa] at e2
        simp [l_Telling_reachb, dDo_eq, dPa, hlen, e2]
      refine ⟨kn2, zs2, g1, h2.trans g2, ?_⟩
      rcases g3 with ⟨⟨d', hd', f1⟩, ρ', f2⟩ | ⟨f1, v7', f2⟩
      · exact .inl ⟨⟨d', List.mem_cons_of_mem _ hd', f1⟩, ρ', loop_cons (hw kn zs) ha hb f2⟩
      · refine .inr ⟨fun d' hd' => ?_, v7', loop_cons (hw kn zs) ha hb f2⟩
        rcases List.mem_cons.mp hd' with rfl | hd'
        · exact ⟨e1, g2 _ _ _ e3⟩
        · exact f1 d' hd'
end
end Law
namespace Law
open Z
theorem isN_dRes {r : Res} (h : r ≠ .big) : decide (dRes r = .non) = r.isNon := by
  cases r with
  | big => exact absurd rfl h
  | non => rfl
  | tr u => cases u; simp [dRes, Res.isNon, dT]
theorem comeB_of {f : Nat → List Nat → Res} {b : Bd} (h : ∀ d ∈ dosB b, f d.1 d.2 ≠ .big) : comeB f b = if (dosB b).any (fun d => (f d.1 d.2).isNon) = true then .non else if 400 < sz (layB (fun s q => (f s q).t) b) then .big else .tr (layB (fun s q => (f s q).t) b) := by
  unfold comeB
  rw [if_neg fun z => by
    obtain ⟨d, hd, e⟩ := List.any_eq_true.mp z
    cases e2 : f d.1 d.2 with
    | big => exact h d hd e2
    | non => rw [e2] at e; cases e
    | tr u => rw [e2] at e; cases e]
theorem comeB_big {f : Nat → List Nat → Res} {b : Bd} {d : Nat × List Nat} (hd : d ∈ dosB b) (h : f d.1 d.2 = .big) : comeB f b = .big := by
  unfold comeB
  rw [if_pos (List.any_eq_true.mpr ⟨d, hd, by rw [h]; rfl⟩)]
section
variable {F k n : Nat} {s : Sto} {t0 : T} {rs : List Ru}
theorem reach_all (hb : s[n]? = some (.lst (rs.map dR))) (h : okBk rs) (ok : okT t0) (hh : ht t0 ≤ 12) (hz : sz t0 ≤ 60) : ∀ (m : Nat) {p : List Nat} {st : Nat} {u : T}, subT t0 p = some u → ht u ≤ m → st ≤ 5 → RchP pr F (k + m + 7) n s rs t0 p st
  | 0, p, st, u, hu, hm, hs => by have := ht_pos u; omega
  | m + 1, p, st, u, hu, hm, hs => by
    intro kn zs g hk
    have hpl := subT_ht hu
    have hkey : keyT (.tup [dPa p, .int st]) = true := kP_key p st
    have hl1 : kn.length < 100000 := by have := hk.kd.len; rw [allK_len] at this; omega
    have hl2 : zs.length < 100000 := by have := hk.zd.len; rw [allK_len] at this; omega
    show ∃ kn' zs', _ ∧ _ ∧ _
    have eK : k + (m + 1) + 7 = (k + m + 7) + 1 := by omega
    rw [eK]
    cases hg : dGet kn (kP p st) with
    | some v =>
      obtain ⟨hn, rfl⟩ := hk.val p st v hg
      refine ⟨kn, zs, hk, Sub.refl, .inr ⟨hn, hg, ?_⟩⟩
      have hg' : dGet kn (.tup [dPa p, .int st]) = some (dRes (come rs t0 p st)) := hg
      rw [u_Telling_reach]
      simp [b_Telling_reach, hkey, hg']
    | none =>
      have hg' : dGet kn (.tup [dPa p, .int st]) = none := hg
      have er := fun (kn zs : List (D × D)) (g : Sto) => rule_spec' (F := F) (k := k + m + 1) (kn := kn) (zs := zs) (g := g) hb h ok hu (st := st)
      cases hr : ruleAt rs t0 p st with
      | none =>
        have ec := come_none hr
        rw [hr] at er
        simp only at er
        have hk2 := hk.put h hh hu hs (by rw [ec]; simp) (fun v e => by rw [ec] at e; cases e) (by omega)
        refine ⟨_, zs, hk2, hk.sub, .inr ⟨by rw [ec]; simp, by rw [dGet_put, if_pos rfl], ?_⟩⟩
        rw [ec] at hk2 ⊢
        rw [u_Telling_reach]
        simp [b_Telling_reach, hkey, hg', er, hl1]
        exact fin_tst0 hk2.kd.cl hk2.zd.cl rfl
      | some r =>
        rw [hr] at er
        simp only at er
        obtain ⟨ru, u0, e1, e2, okr, hu0, hf, hd⟩ := rule_dos h hr
        rw [hu] at hu0; cases hu0
        have ec := come_some h hh hr
        rw [e2] at ec
        have hat : L2.atI (rs.map dR) (r : Int) = some (dR ru) := atI_nat (by rw [List.getElem?_map, e1]; rfl)
        have hbk := fun (kn zs : List (D × D)) (g : Sto) => tst_bk (kn := kn) (zs := zs) (g := g) (t0 := t0) hb
        have ebh := okr.bh
        have ebz := okr.bz
        have ed := fun (kn zs : List (D × D)) (g : Sto) => dos_of_spec F (k + m + 6) ru.b (tst s n t0 kn zs g) (by omega) okr.b (by omega)
        have hR : ∀ d ∈ dosB ru.b, d.2.length ≤ 50 ∧ RchP pr F (k + m + 7) n s rs t0 (p ++ d.2) d.1 := fun d hd' => by
          obtain ⟨a1, a2, a3, u', a4, a5⟩ := hd d hd'
          exact ⟨by omega, reach_all hb h ok hh hz m a4 (by omega) a1⟩
        have hdl : (dosB ru.b).length ≤ 12 := Nat.le_trans (dos_len ru.b) ebz
        have hdR : dR ru = .tup [.int ru.s, dSp ru.sp, dP ru.p, dB ru.b] := rfl
        generalize hds : dosB ru.b = dos at *
        obtain ⟨kn1, zs1, h1, h2, h3⟩ := dos_loop (F := F) (K := k + m + 7) (n := n) (s := s) (t0 := t0) (rs := rs) (p := p) (w := ⟨dos.map dDo, some (s.length + 3 + g.length, .lst (dos.map dDo))⟩) (G := g ++ [.lst (dos.map dDo)]) (fun kn zs => by simp [Wk.stays]) (by omega) (v2 := some (.int st)) (v3 := some (.int r)) (v4 := some .non) (v5 := some (dB ru.b)) (v6 := some (.loc (s.length + 3 + g.length)))
          dos kn zs none hR hk
        simp at ed
        rcases h3 with ⟨⟨d, hd', f1⟩, ρ', f2⟩ | ⟨f1, v7', f2⟩
        · have eb : come rs t0 p st = .big := by rw [ec]; exact comeB_big (f := fun s' q => come rs t0 (p ++ q) s') (by rw [hds]; exact hd') f1
          refine ⟨kn1, zs1, h1, h2, .inl ⟨eb, ?_⟩⟩
          rw [u_Telling_reach]
          simp [b_Telling_reach, l_Telling_reach, hkey, hg', er, hbk, hat, hdR, ed, f2]
          exact fin_tst_exc h1.kd.cl h1.zd.cl
        · have hcm : ev (pr.cl F (k + m + 7)) c_Telling_reach [some (.loc s.length), some (dPa p), some (.int st), some (.int r), some .non, some (dB ru.b), some (.loc (s.length + 3 + g.length)), v7'] (tst s n t0 kn1 zs1 (g ++ [.lst (dos.map dDo)])) =
              .ok (.loc (tst s n t0 kn1 zs1 (g ++ [.lst (dos.map dDo)])).length) (tst s n t0 kn1 zs1 (g ++ [.lst (dos.map dDo)]) ++ [.lst ((dos.filter fun d => (come rs t0 (p ++ d.2) d.1).isNon).map dDo)]) := by
            refine comp_filt (u := dDo) (v := dDo) (p := fun d => (come rs t0 (p ++ d.2) d.1).isNon) (l := dos) (w := ⟨dos.map dDo, some (s.length + 3 + g.length, .lst (dos.map dDo))⟩) (s1 := tst s n t0 kn1 zs1 (g ++ [.lst (dos.map dDo)])) ?_ (by simp [Wk.stays]) rfl (by show _ ≤ 100000; omega) fun d hd' => ?_
            · simp
            · obtain ⟨q1, q2⟩ := f1 d hd'
              have hlen : p.length + d.2.length ≤ 100000 := by have := (hd d hd').2.2.1; omega
              have hk1 : keyT (.tup [.tup ((p.map fun (i : Nat) => D.int i) ++ d.2.map fun (i : Nat) => D.int i), .int d.1]) = true := by rw [key_app]; exact kP_key _ _
              have hk2 : dGet kn1 (.tup [.tup ((p.map fun (i : Nat) => D.int i) ++ d.2.map fun (i : Nat) => D.int i), .int d.1]) = some (dRes (come rs t0 (p ++ d.2) d.1)) := by rw [key_app]; exact q2
              have hk3 := isN_dRes q1
              cases hb2 : (come rs t0 (p ++ d.2) d.1).isNon <;> rw [hb2] at hk3 <;> simp at hk3 <;> simp [c_Telling_reachi, c_Telling_reache, dDo_eq, dPa, hlen, hk1, hk2, hk3]
          have ecB : come rs t0 p st = _ := ec.trans (comeB_of (f := fun s' q => come rs t0 (p ++ q) s') (b := ru.b) fun d hd' => (f1 d (by rw [← hds]; exact hd')).1)
          rw [hds] at ecB
          simp at hcm
          have hkn1 : kn1.length < 100000 := by have := h1.kd.len; rw [allK_len] at this; omega
          have hzn1 : zs1.length < 100000 := by have := h1.zd.len; rw [allK_len] at this; omega
          cases hany : dos.any (fun d => (come rs t0 (p ++ d.2) d.1).isNon) with
          | true =>
            rw [hany, if_pos rfl] at ecB
            have hfe : (dos.filter fun d => (come rs t0 (p ++ d.2) d.1).isNon) ≠ [] := by
              obtain ⟨d, hd', hb2⟩ := List.any_eq_true.mp hany
              exact List.ne_nil_of_mem (List.mem_filter.mpr ⟨hd', hb2⟩)
            generalize hfl : (dos.filter fun d => (come rs t0 (p ++ d.2) d.1).isNon) = fl at *
            have hk2 := h1.put h hh hu hs (by rw [ecB]; simp) (fun v e => by rw [ecB] at e; cases e) (by omega)
            refine ⟨_, zs1, hk2, h2.trans h1.sub, .inr ⟨by rw [ecB]; simp, by rw [dGet_put, if_pos rfl], ?_⟩⟩
            rw [ecB] at hk2 ⊢
            have hfe' : fl.isEmpty = false := by cases fl <;> simp_all
            rw [u_Telling_reach]
            simp [b_Telling_reach, l_Telling_reach, hkey, hg', er, hbk, hat, hdR, ed, f2, hcm, hfe, hkn1]
            exact fin_tst hk2.kd.cl hk2.zd.cl rfl
          | false =>
            rw [hany, if_neg (by simp)] at ecB
            have hfe : (dos.filter fun d => (come rs t0 (p ++ d.2) d.1).isNon) = [] := by
              rw [List.filter_eq_nil_iff]
              intro d hd' hb2
              rw [List.any_eq_true.mpr ⟨d, hd', hb2⟩] at hany
              cases hany
            rw [hfe] at hcm
            have htr : ∀ d ∈ dos, ∃ v, come rs t0 (p ++ d.2) d.1 = .tr v := fun d hd' => by
              cases e : come rs t0 (p ++ d.2) d.1 with
              | big => exact absurd e (f1 d hd').1
              | non => have := List.filter_eq_nil_iff.mp hfe d hd'; rw [e] at this; exact absurd rfl this
              | tr v => exact ⟨v, rfl⟩
            have ep := fun (kn : List (D × D)) (g' : Sto) => parts_spec (F := F) (n := n) (t0 := t0) (s := s) (kn := kn) (zs := zs1) (g := g') (P := ru.p) (p := p) (by omega) (g0 := fun s' q => (come rs t0 (p ++ q) s').t) (k + m + 6) ru.b (by omega) okr.b fun d hd' => by
              rw [hds] at hd'
              obtain ⟨v, hv⟩ := htr d hd'
              rw [hv]
              exact h1.siz _ _ _ _ (f1 d hd').2 hv
            have eb := fun (zs : List (D × D)) (g' : Sto) => built_spec (F := F) (n := n) (t0 := t0) (s := s) (kn := kn1) (zs := zs) (g := g') (P := ru.p) (p := p) (by omega) (g0 := fun s' q => (come rs t0 (p ++ q) s').t) (k + m + 6) ru.b (by omega) okr.b fun d hd' => by
              rw [hds] at hd'
              obtain ⟨v, hv⟩ := htr d hd'
              have := (f1 d hd').2
              rw [hv] at this ⊢
              exact this
            generalize hV : layB (fun s' q => (come rs t0 (p ++ q) s').t) ru.b = V at *
            by_cases hbig : 400 < sz V
            · rw [if_pos hbig] at ecB
              refine ⟨kn1, zs1, h1, h2, .inl ⟨ecB, ?_⟩⟩
              have hbig' : (400 : Int) < (sz V : Int) := by omega
              rw [u_Telling_reach]
              simp [b_Telling_reach, l_Telling_reach, hkey, hg', er, hbk, hat, hdR, ed, f2, hcm, ep, hbig']
              exact fin_tst_exc h1.kd.cl h1.zd.cl
            · rw [if_neg hbig] at ecB
              have hbig' : ¬ (400 : Int) < (sz V : Int) := by omega
              have hz2 := h1.putz hu hs ecB (by omega)
              have hk2 := hz2.put h hh hu hs (by rw [ecB]; simp) (fun v e => by rw [ecB] at e; cases e; rw [dGet_put, if_pos rfl]) (by omega)
              refine ⟨_, _, hk2, h2.trans h1.sub, .inr ⟨by rw [ecB]; simp, by rw [dGet_put, if_pos rfl], ?_⟩⟩
              rw [ecB] at hk2 ⊢
              rw [u_Telling_reach]
              simp [b_Telling_reach, l_Telling_reach, hkey, hg', er, hbk, hat, hdR, ed, f2, hcm, ep, eb, hbig', hkn1, hzn1]
              exact fin_tst hk2.kd.cl hk2.zd.cl rfl
end
end Law
namespace Law
open Z
theorem locs0 {d : D} (h : clD 0 d = true) : locsD d = [] := by
  have := clD_locs h
  cases e : locsD d with
  | nil => rfl
  | cons a l => rw [e] at this; simp at this
theorem rnD_free {g : Nat → Nat} {d : D} (h : locsD d = []) : rnD g d = d := rnD_id (p := fun _ => false) (fun _ z => by cases z) (by rw [h]; rfl)
theorem map_free {g : Nat → Nat} {kn : List (D × D)} (h : Cln kn) : kn.map (fun p => (p.1, rnD g p.2)) = kn := by
  have : ∀ p ∈ kn, (fun p : D × D => (p.1, rnD g p.2)) p = p := fun p hp => by
    have := plDs_iff.mp h.v p.2 (List.mem_map.mpr ⟨p, hp, rfl⟩)
    show (p.1, rnD g p.2) = p
    rw [rnD_free (pl_locs this)]
  rw [List.map_congr_left this]; simp
theorem fin_no {st0 st : Sto} {d : D} (h : ¬ OldOk st0 st) : finish st0 (.ok d st) = .ok d st := by
  simp only [finish]
  rw [if_neg h]
section
variable {F k n : Nat} {s : Sto} {t0 : T} {rs : List Ru}
theorem init_spec : pr.call F (k + 1) f_Telling_init [.loc s.length, .loc n, dT t0] (s ++ [.ins c_Telling []]) = .ok .non (tst s n t0 [] [] []) := by
  have hno : ¬ OldOk (s ++ [.ins c_Telling []]) (tst s n t0 [] [] []) := fun h => by
    have := h s.length (by simp)
    simp [clC, clDs, clD] at this
  rw [u_Telling_init]
  simp [b_Telling_init, putF']
  exact fin_no hno
theorem kin_nil : KI rs t0 [] [] := ⟨Kd.nil, Kd.nil, fun p s v e => (by cases e), fun p s v u e => (by cases e)⟩
theorem tst_old0 {kn zs : List (D × D)} {g : Sto} : OldOk s (tst s n t0 kn zs g) := fun i hi => .inl (tst_old hi)
theorem fin_tell {kn zs : List (D × D)} (h1 : Cln kn) (h2 : Cln zs) (hn : n < s.length) : finish s (.ok (.loc s.length) (tst s n t0 kn zs [])) = .ok (.loc s.length) (tst s n t0 kn zs []) := by
  simp only [finish]
  rw [if_pos tst_old0]
  have l1 : locsC (.dct kn) = [] := pls_locs h1.v
  have l2 : locsC (.dct zs) = [] := pls_locs h2.v
  have l0 : locsC (.ins c_Telling [(n_book, .loc n), (n_tree, dT t0), (n_known, .loc (s.length + 1)), (n_sizes, .loc (s.length + 2))]) = [n, s.length + 1, s.length + 2] := by
    have := locs0 (dT_cl t0)
    simp [locsC, locsDs, locsD, this]
  have hr : Z.reach s.length (tst s n t0 kn zs []) 40 [s.length] [] = [s.length, s.length + 1, s.length + 2] := by
    have c1 : ¬ (s.length < s.length) := Nat.lt_irrefl _
    have c2 : ¬ (s.length + 1 < s.length) := by omega
    have c3 : ¬ (s.length + 2 < s.length) := by omega
    simp [Z.reach, l0, l1, l2, hn, c1, c2, c3]
  rw [show locsD (.loc s.length) = [s.length] from rfl, hr]
  have hp0 : pickC s.length [s.length, s.length + 1, s.length + 2] (tst s n t0 kn zs []) s.length = .ins c_Telling [(n_book, .loc n), (n_tree, dT t0), (n_known, .loc (s.length + 1)), (n_sizes, .loc (s.length + 2))] := by
    have := rnD_free (g := newN s.length [s.length, s.length + 1, s.length + 2]) (locs0 (dT_cl t0))
    have b1 : (s.length == s.length + 1) = false := by simp
    have b2 : (s.length == s.length + 2) = false := by simp
    simp [pickC, rnC, rnD, newN, hn, this, List.idxOf_cons, b1, b2]
  have hp1 : pickC s.length [s.length, s.length + 1, s.length + 2] (tst s n t0 kn zs []) (s.length + 1) = .dct kn := by
    simp [pickC, rnC]
    exact map_free h1
  have hp2 : pickC s.length [s.length, s.length + 1, s.length + 2] (tst s n t0 kn zs []) (s.length + 2) = .dct zs := by
    simp [pickC, rnC]
    exact map_free h2
  have hgc : GcOk s.length [s.length, s.length + 1, s.length + 2] (.loc s.length) (tst s n t0 kn zs []) := by
    refine ⟨by simp, fun k hk => ?_, by simp [locsD, okN]⟩
    simp at hk
    rcases hk with rfl | rfl | rfl
    · simp [l0, okN, hn]
    · simp [l1]
    · simp [l2]
  unfold gcD
  rw [if_pos hgc, List.map_cons, List.map_cons, List.map_cons, List.map_nil, hp0, hp1, hp2]
  simp [rnD, newN, List.idxOf_cons]
  unfold tst
  rw [List.take_left' rfl]
theorem fin_exc0 {c : Nat} {st st1 : Sto} (h : OldOk st st1) : finish st (.exc ⟨c, none⟩ st1) = .exc ⟨c, none⟩ (st1.take st.length) := by
  simp only [finish]
  rw [if_pos ⟨rfl, h⟩]
theorem told_by_spec (hb : s[n]? = some (.lst (rs.map dR))) (h : okBk rs) (ok : okT t0) (hh : ht t0 ≤ 12) (hz : sz t0 ≤ 60) :
    (come rs t0 [] 0 = .big ∧ pr.call F (k + 20) f_told_by [.loc n, dT t0] s = .exc ⟨c_TooBig, none⟩ s) ∨
    (come rs t0 [] 0 ≠ .big ∧ ∃ kn zs, Cln kn ∧ dGet kn (kP [] 0) = some (dRes (come rs t0 [] 0)) ∧ pr.call F (k + 20) f_told_by [.loc n, dT t0] s = .ok (.loc s.length) (tst s n t0 kn zs [])) := by
  have hn : n < s.length := (List.getElem?_eq_some_iff.mp hb).1
  have ei := init_spec (F := F) (k := k + 18) (n := n) (s := s) (t0 := t0)
  have R := reach_all (F := F) (k := k) hb h ok hh hz 12 (p := []) (st := 0) (u := t0) (by rw [subT]) hh (by omega) [] [] [] kin_nil
  obtain ⟨kn, zs, h1, h2, h3⟩ := R
  have e0 : D.tup [] = dPa [] := rfl
  rcases h3 with ⟨e1, e2⟩ | ⟨e1, e3, e2⟩
  · refine .inl ⟨e1, ?_⟩
    rw [u_told_by]
    simp [dPa] at e2
    simp [b_told_by, ei, e2]
    rw [fin_exc0 tst_old0]
    unfold tst
    rw [List.take_left' rfl]
  · refine .inr ⟨e1, kn, zs, h1.kd.cl, e3, ?_⟩
    rw [u_told_by]
    simp [dPa] at e2
    simp [b_told_by, ei, e2]
    exact fin_tell h1.kd.cl h1.zd.cl hn
theorem fin_old0 {st x : Sto} {d : D} (h : clD 0 d = true) : finish st (.ok d (st ++ x)) = .ok d st := finish_new st x d h
theorem told_spec (hF : 61 < F) (hb : s[n]? = some (.lst (rs.map dR))) (h : okBk rs) (ok : okT t0) (hh : ht t0 ≤ 12) (hz : sz t0 ≤ 60) :
    pr.call F (k + 21) f_told [.loc n, dT t0] s = match come rs t0 [] 0 with | .big => .exc ⟨c_TooBig, none⟩ s | r => .ok (dRes r) s := by
  have e1 := need_book_spec F (k + 12) hb h
  have e2 := need_tree_spec F (k + 17) (t := t0) (st := s) hF ok hz hh
  rcases told_by_spec (F := F) (k := k) hb h ok hh hz with ⟨c1, c2⟩ | ⟨c1, kn, zs, c2, c3, c4⟩
  · rw [c1, u_told]
    simp [b_told, e1, e2, c2]
    rw [fin_exc0 (fun i hi => .inl rfl)]
    simp
  · have hres : clD 0 (dRes (come rs t0 [] 0)) = true := pl_cl (dRes_pl h hh (u := t0) (p := []) (s := 0) (by rw [subT]))
    have hk : keyT (.tup [.tup [], .int 0]) = true := kP_key [] 0
    have c3' : dGet kn (.tup [.tup [], .int 0]) = some (dRes (come rs t0 [] 0)) := c3
    have fin : pr.call F (k + 21) f_told [.loc n, dT t0] s = .ok (dRes (come rs t0 [] 0)) s := by
      rw [u_told]
      simp [b_told, e1, e2, c4, hk, c3']
      exact fin_old0 hres
    cases hc : come rs t0 [] 0 with
    | big => exact absurd hc c1
    | non => rw [fin, hc]
    | tr u => rw [fin, hc]
end
end Law
namespace Law
open Z
/-! ### the law's own look at a place -/
def KDof (t : T) : List (D × D) := ((plT t).map fun q => (dPa q.1, dT q.2)).foldl (fun kvs p => dPut kvs p.1 p.2) []
theorem dGet_fold {f : D → D} : ∀ (L : List (D × D)) (kvs : List (D × D)) (k : D), (∀ p ∈ L, p.2 = f p.1) → dGet (L.foldl (fun kvs p => dPut kvs p.1 p.2) kvs) k = if k ∈ L.map (·.1) then some (f k) else dGet kvs k
  | [], kvs, k, h => by simp
  | p :: L, kvs, k, h => by
    rw [List.foldl_cons, dGet_fold L _ k fun q hq => h q (List.mem_cons_of_mem _ hq), dGet_put, List.map_cons]
    by_cases h1 : k ∈ L.map (·.1)
    · simp [h1]
    · by_cases h2 : k = p.1
      · have := h p List.mem_cons_self
        subst h2
        simp [this]
      · simp [h1, h2]
def getT (t : T) : D → D
  | .tup xs => match subT t (xs.map fun d => match d with | .int i => i.toNat | _ => 0) with | some u => dT u | none => .non
  | _ => .non
theorem getT_Pa (t : T) (p : List Nat) : getT t (dPa p) = match subT t p with | some u => dT u | none => .non := by
  unfold dPa getT
  have : ((p.map fun (i : Nat) => D.int i).map fun d => match d with | .int i => i.toNat | _ => 0) = p := by
    rw [List.map_map]
    conv => rhs; rw [← List.map_id p]
    exact List.map_congr_left fun i _ => by simp
  simp only [this]
theorem KD_get {t : T} {p : List Nat} {u : T} (h : subT t p = some u) : dGet (KDof t) (dPa p) = some (dT u) := by
  unfold KDof
  rw [dGet_fold (f := getT t) _ _ _ fun q hq => ?_]
  · rw [if_pos (List.mem_map.mpr ⟨(dPa p, dT u), List.mem_map.mpr ⟨(p, u), sub_pl h, rfl⟩, rfl⟩), getT_Pa, h]
  · obtain ⟨x, hx, rfl⟩ := List.mem_map.mp hq
    simp only
    rw [getT_Pa, plT_sub hx]
theorem pairs_pl : ∀ l : List (List Nat × T), pairsD (l.map plD1) = some (l.map fun q => (dPa q.1, dT q.2))
  | [] => rfl
  | q :: l => by
    rw [List.map_cons, List.map_cons]
    have hk : keyT (dPa q.1) = true := key_Pa q.1
    unfold plD1
    rw [pairsD, if_pos hk]
    have := pairs_pl l
    unfold plD1 at this
    rw [this]
abbrev last_ft : ISs := (.cons (.ite (.and (.cmp .eq (.var 7) (.var 1)) (.and (.var 6) (.call f_law_fits (.cons (.var 9) (.cons (.ix (.var 3) (.var 2)) .nil))))) (.cons (.expr (.me1 .append (.var 4) (.var 5))) .nil) .nil) .nil)
theorem fitting_spec (F k : Nat) {rs : List Ru} {n kd s : Nat} {st : Sto} (hb : st[n]? = some (.lst (rs.map dR))) (h : okBk rs) {t0 u : T} (hkd : st[kd]? = some (.dct (KDof t0))) (ok : okT t0) {p : List Nat} (hu : subT t0 p = some u) :
    pr.call F (k + 5) f_law_fitting [.loc n, .int s, dPa p, .loc kd] st = .ok (.loc st.length) (st ++ [.lst ((rulesAt rs t0 u p s).map dN)]) := by
  have hn : n < st.length := (List.getElem?_eq_some_iff.mp hb).1
  have hn2 : kd < st.length := (List.getElem?_eq_some_iff.mp hkd).1
  have oku := (subT_ok hu ok).1
  have hg : dGet (KDof t0) (.tup (p.map fun (i : Nat) => D.int i)) = some (dT u) := KD_get hu
  obtain ⟨ρ', st', e1, a, b, c, d, e, f, rfl, rfl⟩ := for_inv (w := rngW 0 rs.length) (tg := .name 5) (b := evSs (pr.cl F (k + 4)) F l_law_fittingb)
    (ρ := [some (.loc n), some (.int s), some (dPa p), some (.loc kd), some (.loc st.length), none, none, none, none, none, none]) (st := st ++ [.lst []]) (List.range rs.length) (fun i => D.int (i : Nat))
    (fun i ρ s' => ∃ a b c d e f, ρ = [some (.loc n), some (.int s), some (dPa p), some (.loc kd), some (.loc st.length), a, b, c, d, e, f] ∧ s' = st ++ [.lst (((List.range i).filter fun j => ruleB t0 u p s (rs.getD j ru0)).map dN)]) (by simp [rngW])
    (fun i ρ s' hp => by simp [rngW, Wk.stays])
    (by
      rintro i j ρ s' ha ⟨a, b, c, d, e, f, rfl, rfl⟩
      have hil : i < rs.length := by have := (List.getElem?_eq_some_iff.mp ha).1; simpa using this
      rw [List.getElem?_range hil] at ha
      cases ha
      have hr : rs[i]? = some rs[i] := List.getElem?_eq_getElem hil
      have hm := h.ok rs[i] (List.getElem_mem hil)
      generalize rs[i] = r at *
      have hfew := h.few
      have hat : L2.atI (rs.map dR) (i : Int) = some (dR r) := atI_nat (by rw [List.getElem?_map, hr]; rfl)
      generalize hL : ((List.range i).filter fun j => ruleB t0 u p s (rs.getD j ru0)) = L
      have hLl : L.length ≤ i := by rw [← hL]; exact Nat.le_trans (List.length_filter_le _ _) (by simp)
      have e3 : pr.call F (k + 4) f_law_fits [dP r.p, dT u] (st ++ [.lst (L.map dN)]) = .ok (.bl (fitsP r.p u)) (st ++ [.lst (L.map dN)]) := law_fits_spec F (k + 3) r.p u _ (by have := hm.ph; omega) hm.p oku
      have e4 : ruleB t0 u p s (rs.getD i ru0) = (decide (r.s = s) && spotB t0 p r.sp && fitsP r.p u) := by rw [getD_R hr]; rfl
      have hs : ((r.s : Int) = (s : Int)) ↔ r.s = s := by omega
      have hb' : (st ++ [Cell.lst (L.map dN)])[n]? = some (.lst (rs.map dR)) := by rw [List.getElem?_append_left hn, hb]
      have hk' : (st ++ [Cell.lst (L.map dN)])[kd]? = some (.dct (KDof t0)) := by rw [List.getElem?_append_left hn2, hkd]
      have main : ∃ v6, evSs (pr.cl F (k + 4)) F l_law_fittingb [some (.loc n), some (.int s), some (dPa p), some (.loc kd), some (.loc st.length), some (.int (i : Nat)), b, c, d, e, f] (st ++ [.lst (L.map dN)]) =
          .ok .nx [some (.loc n), some (.int s), some (dPa p), some (.loc kd), some (.loc st.length), some (.int (i : Nat)), v6, some (.int r.s), some (dSp r.sp), some (dP r.p), some (dB r.b)] (st ++ [.lst (((List.range (i + 1)).filter fun j => ruleB t0 u p s (rs.getD j ru0)).map dN)]) := by
        refine ⟨some (.bl (spotB t0 p r.sp)), ?_⟩
        rw [List.range_succ, List.filter_append, hL]
        simp only [List.filter_cons, List.filter_nil, e4]
        have hlast : ∀ B : Bool, evSs (pr.cl F (k + 4)) F last_ft [some (.loc n), some (.int s), some (dPa p), some (.loc kd), some (.loc st.length), some (.int (i : Nat)), some (.bl B), some (.int r.s), some (dSp r.sp), some (dP r.p), some (dB r.b)] (st ++ [.lst (L.map dN)]) =
            .ok .nx [some (.loc n), some (.int s), some (dPa p), some (.loc kd), some (.loc st.length), some (.int (i : Nat)), some (.bl B), some (.int r.s), some (dSp r.sp), some (dP r.p), some (dB r.b)] (st ++ [.lst ((L ++ if (decide (r.s = s) && B && fitsP r.p u) = true then [i] else []).map dN)]) := fun B => by
          have hg' := hg
          by_cases h1 : r.s = s
          · cases B with
            | false => simp [last_ft, h1]
            | true =>
              cases h3 : fitsP r.p u with
              | false => rw [h3] at e3; simp [last_ft, h1, hk', dPa, hg, e3]
              | true => rw [h3] at e3; simp [last_ft, h1, hk', dPa, hg, e3, (by omega : L.length < 100000), dN]
          · simp [last_ft, hs, h1]
        have first : evSs (pr.cl F (k + 4)) F l_law_fittingb [some (.loc n), some (.int s), some (dPa p), some (.loc kd), some (.loc st.length), some (.int (i : Nat)), b, c, d, e, f] (st ++ [.lst (L.map dN)]) =
            evSs (pr.cl F (k + 4)) F last_ft [some (.loc n), some (.int s), some (dPa p), some (.loc kd), some (.loc st.length), some (.int (i : Nat)), some (.bl (spotB t0 p r.sp)), some (.int r.s), some (dSp r.sp), some (dP r.p), some (dB r.b)] (st ++ [.lst (L.map dN)]) := by
          show evSs _ _ (.cons _ (.cons _ (.cons _ (.cons _ last_ft)))) _ _ = _
          have hsp := hm.sp
          clear hlast e4
          generalize last_ft = LF
          cases hq : r.sp with
          | no => simp [hb', hat, dR, hq, dSp, spotB]
          | top => simp [hb', hat, dR, hq, dSp, spotB, dPa]
          | under cc =>
            rcases List.eq_nil_or_concat p with rfl | ⟨q, x, rfl⟩
            · simp [hb', hat, dR, hq, dSp, spotB, dPa, labA]
            · rw [List.concat_eq_append] at hu ⊢
              rw [subT_app] at hu
              cases hv : subT t0 q with
              | none => rw [hv] at hu; cases hu
              | some v =>
                have hgq : dGet (KDof t0) (.tup (q.map fun (i : Nat) => D.int i)) = some (dT v) := KD_get hv
                cases v with
                | node c1 ks =>
                  have e2 : labA t0 (q ++ [x]) = some c1 := by unfold labA; rw [if_neg (by simp), List.dropLast_concat, hv]; rfl
                  rw [dT] at hgq
                  simp [hb', hk', hat, dR, hq, dSp, spotB, dPa, hgq, e2]
          | kid ii =>
            rcases List.eq_nil_or_concat p with rfl | ⟨q, x, rfl⟩
            · simp [hb', hat, dR, hq, dSp, spotB, dPa]
            · have e0 : L2.atI ((q ++ [x]).map fun (i : Nat) => D.int i) (-1) = some (.int x) := by rw [List.map_append]; exact atI_last
              simp at e0
              have e2 : ((x : Int) = (ii : Int)) ↔ x = ii := by omega
              simp [hb', hat, dR, hq, dSp, spotB, dPa, e0, e2]
        rw [first, hlast]
      obtain ⟨v6, main⟩ := main
      exact ⟨_, _, _, rfl, .inl main, _, _, _, _, _, _, rfl, rfl⟩) ⟨none, none, none, none, none, none, rfl, rfl⟩
  rw [u_law_fitting]
  rw [List.length_range] at e1
  have e5 : ((List.range rs.length).filter fun j => ruleB t0 u p s (rs.getD j ru0)) = rulesAt rs t0 u p s := rfl
  rw [e5] at e1
  have hfew := h.few
  have hlim : iLim (rs.length : Int) := iLim_nat (by omega)
  have hb0 : (st ++ [Cell.lst []])[n]? = some (.lst (rs.map dR)) := by rw [List.getElem?_append_left hn, hb]
  simp [b_law_fitting, l_law_fitting, hb0, hlim, e1]
  exact fin_new1 (by show locsDs _ = []; exact pls_locs (plDs_map fun _ _ => rfl))
end Law
namespace Law
open Z
def dOg (o : Og) : D := .tup [dPa o.h, dPa o.p, .int o.r]
def dStk (x : List Nat × Bd) : D := .tup [dPa x.1, dB x.2]
section
variable {F k n : Nat} {s : Sto} {t0 : T} {rs : List Ru} {kn zs : List (D × D)}
@[simp] theorem tst_setg {g : Sto} {j : Nat} {c : Cell} : (tst s n t0 kn zs g).set (s.length + 3 + j) c = tst s n t0 kn zs (g.set j c) := by
  unfold tst
  rw [Nat.add_assoc, ends_n, Nat.add_comm 3 j]
  simp
/-- what the origins of a place are told as -/
def OrgP (F K n : Nat) (s : Sto) (rs : List Ru) (t0 : T) (kn zs : List (D × D)) (p : List Nat) (st : Nat) : Prop := ∀ g : Sto, pr.call F K f_origins_at [.loc s.length, dPa p, .int st] (tst s n t0 kn zs g) = .ok (.loc (s.length + 3 + g.length)) (tst s n t0 kn zs (g ++ [.lst ((org rs t0 p st).map dOg)]))
theorem og_len {rs : List Ru} {t0 : T} {v : T} {p : List Nat} {st : Nat} (h : (org rs t0 p st).map Og.h = (plT v).map (·.1)) : (org rs t0 p st).length = sz v := by
  have := congrArg List.length h
  rwa [List.length_map, List.length_map, plT_len] at this
theorem orig_loop {p : List Nat} {st r : Nat} {G : Sto} (hp : p.length ≤ 12) : ∀ (fuel : Nat) (Q : List (List Nat × Bd)) (A : List Og) (v6 v7 v8 : Option D) (g : Sto), szq' Q < fuel → szq' Q ≤ 1000 → A.length + (stkO (fun s' q => org rs t0 (p ++ q) s') p r Q).length ≤ 50000 → (∀ x ∈ Q, x.1.length + htB x.2 ≤ 1000) →
    (∀ x ∈ Q, (∃ P, okB P x.2) ∧ ∀ d ∈ dosB x.2, d.2.length ≤ 2 ∧ OrgP F k n s rs t0 kn zs (p ++ d.2) d.1 ∧ (∀ o ∈ org rs t0 (p ++ d.2) d.1, o.h.length ≤ 1000) ∧ (org rs t0 (p ++ d.2) d.1).length ≤ 1000) →
    ∃ ρ' g', loopW (evT (pr.cl F k) (.cmp .ne (.var 5) (.lst .nil))) (evSs (pr.cl F k) F l_origins_atb) fuel [some (.loc s.length), some (dPa p), some (.int st), some (.int r), some (.loc (s.length + 3 + G.length)), some (.loc (s.length + 3 + (G.length + 1))), v6, v7, v8, none, none, none, none]
        (tst s n t0 kn zs (G ++ .lst (A.map dOg) :: .lst (Q.map dStk).reverse :: g)) = .ok .nx ρ' (tst s n t0 kn zs (G ++ .lst ((A ++ stkO (fun s' q => org rs t0 (p ++ q) s') p r Q).map dOg) :: g')) ∧ ρ'[4]? = some (some (.loc (s.length + 3 + G.length))) := by
  intro fuel
  induction fuel with
  | zero => intro Q A v6 v7 v8 g h; omega
  | succ fuel ih =>
    intro Q A v6 v7 v8 g hf hz hl hh hq
    have test : ev (pr.cl F k) (.cmp .ne (.var 5) (.lst .nil)) [some (.loc s.length), some (dPa p), some (.int st), some (.int r), some (.loc (s.length + 3 + G.length)), some (.loc (s.length + 3 + (G.length + 1))), v6, v7, v8, none, none, none, none] (tst s n t0 kn zs (G ++ .lst (A.map dOg) :: .lst (Q.map dStk).reverse :: g)) = .ok (.bl (!Q.isEmpty)) (tst s n t0 kn zs (G ++ .lst (A.map dOg) :: .lst (Q.map dStk).reverse :: (g ++ [.lst []]))) := by
      simp
    cases Q with
    | nil =>
      refine ⟨_, .lst [] :: (g ++ [.lst []]), (w_stop test).trans (by simp [stkO]; rfl), rfl⟩
    | cons x Q =>
      obtain ⟨h, b⟩ := x
      obtain ⟨⟨P, okb⟩, hd⟩ := hq _ List.mem_cons_self
      have hlb := hh _ List.mem_cons_self
      simp only at hlb hd okb
      cases b with
      | go s' q =>
        rw [stkO_go] at hl
        obtain ⟨d1, d2, d3, d4⟩ := hd (s', q) (by rw [dosB]; simp)
        simp only at d1 d2 d3 d4
        rw [List.length_append, List.length_map] at hl
        have hO := d2 (G ++ .lst (A.map dOg) :: .lst (Q.map dStk).reverse :: (g ++ [.lst []]))
        generalize hog : org rs t0 (p ++ q) s' = og at *
        have hcm : ∀ (st' : Sto) (j : Nat), st'[j]? = some (.lst (og.map dOg)) → ev (pr.cl F k) c_origins_at [some (.loc s.length), some (dPa p), some (.int st), some (.int r), some (.loc (s.length + 3 + G.length)), some (.loc (s.length + 3 + (G.length + 1))), some (dPa h), some (dB (.go s' q)), some (.loc j), none, none, none, none] st' = .ok (.loc st'.length) (st' ++ [.lst ((og.map (Og.under h)).map dOg)]) := fun st' j hj => by
          rw [List.map_map]
          refine comp_map (u := dOg) (v := dOg ∘ Og.under h) (w := ⟨og.map dOg, some (j, .lst (og.map dOg))⟩) (s1 := st') ?_ (by simp [Wk.stays, hj]) rfl (by show _ ≤ 100000; omega) fun o ho => ?_
          · simp [hj]
          · have := d3 o ho
            simp [c_origins_ate, dOg, dPa, Og.under, (by omega : h.length + o.h.length ≤ 100000)]
        have hb : evSs (pr.cl F k) F l_origins_atb [some (.loc s.length), some (dPa p), some (.int st), some (.int r), some (.loc (s.length + 3 + G.length)), some (.loc (s.length + 3 + (G.length + 1))), v6, v7, v8, none, none, none, none] (tst s n t0 kn zs (G ++ .lst (A.map dOg) :: .lst (((h, Bd.go s' q) :: Q).map dStk).reverse :: (g ++ [.lst []]))) =
            .ok .nx [some (.loc s.length), some (dPa p), some (.int st), some (.int r), some (.loc (s.length + 3 + G.length)), some (.loc (s.length + 3 + (G.length + 1))), some (dPa h), some (dB (.go s' q)), some (.loc (s.length + 3 + (G.length + (g.length + 3)))), none, none, none, none]
              (tst s n t0 kn zs (G ++ .lst ((A ++ og.map (Og.under h)).map dOg) :: .lst (Q.map dStk).reverse :: (g ++ [.lst [], .lst (og.map dOg), .lst ((og.map (Og.under h)).map dOg)]))) := by
          have hO' := hO
          simp [dPa] at hO'
          have hcm' := hcm (tst s n t0 kn zs (G ++ .lst (A.map dOg) :: .lst (Q.map dStk).reverse :: (g ++ [.lst [], .lst (og.map dOg)]))) (s.length + 3 + (G.length + (g.length + 1 + 1 + 1))) (by simp)
          simp [dPa, dB] at hcm'
          simp [l_origins_atb, dStk, dB, dPa, (by omega : p.length + q.length ≤ 100000), hO', hcm', (by omega : A.length + og.length ≤ 100000)]
        have hs1 : szq' ((h, Bd.go s' q) :: Q) = 1 + szq' Q := by unfold szq'; rw [List.map_cons, List.sum_cons, szB]
        rw [hs1] at hf hz
        obtain ⟨ρ', g', e, e4⟩ := ih Q (A ++ og.map (Og.under h)) (some (dPa h)) (some (dB (.go s' q))) (some (.loc (s.length + 3 + (G.length + (g.length + 3))))) (g ++ [.lst [], .lst (og.map dOg), .lst ((og.map (Og.under h)).map dOg)]) (by omega) (by omega) (by rw [List.length_append, List.length_map]; omega) (fun x hx => hh x (List.mem_cons_of_mem _ hx)) (fun x hx => hq x (List.mem_cons_of_mem _ hx))
        refine ⟨ρ', g', ?_, e4⟩
        rw [stkO_go, hog, ← List.append_assoc]
        exact w_turn test hb e
      | node c ks =>
        rw [okB] at okb
        rw [stkO_node, List.length_cons, stkO_app, List.length_append] at hl
        have hke : (kidsO h 0 ks).length = ks.length := by simp [kidsO]
        have hkd : ∀ j, j < ks.length → L2.atI (dBs ks) (j : Int) = some (dB (ks.getD j (.go 0 []))) := fun j hj => atI_nat (by rw [dBs_map, List.getElem?_map, List.getElem?_eq_getElem hj, List.getD_eq_getElem?_getD, List.getElem?_eq_getElem hj]; rfl)
        have hdbl : (dBs ks).length = ks.length := by rw [dBs_map]; simp
        have hkO : kidsO h 0 ks = (List.range ks.length).map fun j => (h ++ [j], ks.getD j (.go 0 [])) := by
          apply List.ext_getElem
          · simp [kidsO]
          · intro j h1 h2
            have hj : j < ks.length := by rw [hke] at h1; exact h1
            simp [kidsO, List.getD_eq_getElem?_getD, List.getElem?_eq_getElem hj]
        have hcm : ∀ (st' : Sto), ev (pr.cl F k) c_origins_at2 [some (.loc s.length), some (dPa p), some (.int st), some (.int r), some (.loc (s.length + 3 + G.length)), some (.loc (s.length + 3 + (G.length + 1))), some (dPa h), some (dB (.node c ks)), v8, none, none, none, none] st' = .ok (.loc st'.length) (st' ++ [.lst ((kidsO h 0 ks).map dStk)]) := fun st' => by
          have hlk : ks.length ≤ 3 := okb.2.1
          rw [hkO, List.map_map]
          refine comp_rng (n := ks.length) ?_ (by show _ ≤ 100000; omega) fun j hj => ?_
          · rw [dB]; simp [hdbl, iLim_nat (by omega : ks.length ≤ 1000000)]
          · rw [dB]
            simp [c_origins_at2e, dStk, dPa, hkd j hj, (by omega : h.length + 1 ≤ 100000)]
        have hb : evSs (pr.cl F k) F l_origins_atb [some (.loc s.length), some (dPa p), some (.int st), some (.int r), some (.loc (s.length + 3 + G.length)), some (.loc (s.length + 3 + (G.length + 1))), v6, v7, v8, none, none, none, none] (tst s n t0 kn zs (G ++ .lst (A.map dOg) :: .lst (((h, Bd.node c ks) :: Q).map dStk).reverse :: (g ++ [.lst []]))) =
            .ok .nx [some (.loc s.length), some (dPa p), some (.int st), some (.int r), some (.loc (s.length + 3 + G.length)), some (.loc (s.length + 3 + (G.length + 1))), some (dPa h), some (dB (.node c ks)), v8, none, none, none, none]
              (tst s n t0 kn zs (G ++ .lst ((A ++ [Og.mk h p r]).map dOg) :: .lst ((kidsO h 0 ks ++ Q).map dStk).reverse :: (g ++ [.lst [], .lst ((kidsO h 0 ks).map dStk), .lst ((kidsO h 0 ks).map dStk).reverse]))) := by
          have hlk : ks.length ≤ 3 := okb.2.1
          have hql : Q.length ≤ 1000 := by
            have h1 : ∀ Q : List (List Nat × Bd), Q.length ≤ szq' Q := fun Q => by
              induction Q with
              | nil => simp
              | cons x Q ih =>
                have : 1 ≤ szB x.2 := by cases x.2 <;> rw [szB] <;> omega
                unfold szq' at ih ⊢
                rw [List.map_cons, List.sum_cons, List.length_cons]; omega
            have := h1 ((h, Bd.node c ks) :: Q)
            rw [List.length_cons] at this; omega
          generalize hkk : kidsO h 0 ks = kk at *
          have hcm' := hcm
          simp [dPa, dB] at hcm'
          have hidx : s.length + 3 + (G.length + (g.length + 1 + 1 + 1)) + 1 = s.length + 3 + (G.length + (g.length + 1 + 1 + 1 + 1)) := by omega
          simp [l_origins_atb, dStk, dB, dPa, hcm', dOg, (by omega : A.length < 100000), hidx, hke, (by omega : Q.length + ks.length ≤ 100000)]
        have hs1 : szq' ((h, Bd.node c ks) :: Q) = 1 + szq' (kidsO h 0 ks ++ Q) := by rw [szq'_app, szq'_kids]; unfold szq'; rw [List.map_cons, List.sum_cons, szB]; omega
        rw [hs1] at hf hz
        obtain ⟨ρ', g', e, e4⟩ := ih (kidsO h 0 ks ++ Q) (A ++ [Og.mk h p r]) (some (dPa h)) (some (dB (.node c ks))) v8 (g ++ [.lst [], .lst ((kidsO h 0 ks).map dStk), .lst ((kidsO h 0 ks).map dStk).reverse]) (by omega) (by omega) (by rw [stkO_app, List.length_append, List.length_append]; simp; omega)
          (fun x hx => by
            rcases List.mem_append.mp hx with hx | hx
            · rw [hkO] at hx
              obtain ⟨j, hj, rfl⟩ := List.mem_map.mp hx
              have hj := List.mem_range.mp hj
              have hm : ks.getD j (.go 0 []) ∈ ks := by rw [List.getD_eq_getElem?_getD, List.getElem?_eq_getElem hj]; exact List.getElem_mem hj
              have := htBs_le hm
              rw [htB] at hlb
              simp only [List.length_append, List.length_singleton]
              omega
            · exact hh x (List.mem_cons_of_mem _ hx))
          (fun x hx => by
            rcases List.mem_append.mp hx with hx | hx
            · rw [hkO] at hx
              obtain ⟨j, hj, rfl⟩ := List.mem_map.mp hx
              have hj := List.mem_range.mp hj
              have hm : ks.getD j (.go 0 []) ∈ ks := by rw [List.getD_eq_getElem?_getD, List.getElem?_eq_getElem hj]; exact List.getElem_mem hj
              exact ⟨⟨P, okBs_mem okb.2.2 hm⟩, fun d hd' => hd d (by rw [dosB, doss_flat]; exact List.mem_flatMap.mpr ⟨_, hm, hd'⟩)⟩
            · exact hq x (List.mem_cons_of_mem _ hx))
        refine ⟨ρ', g', ?_, e4⟩
        rw [stkO_node, show A ++ Og.mk h p r :: stkO (fun s' q => org rs t0 (p ++ q) s') p r (kidsO h 0 ks ++ Q) = (A ++ [Og.mk h p r]) ++ stkO (fun s' q => org rs t0 (p ++ q) s') p r (kidsO h 0 ks ++ Q) by rw [List.append_assoc]; rfl]
        exact w_turn test hb e
end
end Law
namespace Law
open Z
section
variable {F k n : Nat} {s : Sto} {t0 : T} {rs : List Ru} {kn zs : List (D × D)}
theorem orig_all (hF : 1000 < F) (hb : s[n]? = some (.lst (rs.map dR))) (h : okBk rs) (ok : okT t0) (hh : ht t0 ≤ 12) (hz : sz t0 ≤ 60) : ∀ (m : Nat) {p : List Nat} {st : Nat} {u v : T}, subT t0 p = some u → ht u ≤ m → come rs t0 p st = .tr v → OrgP F (k + m + 7) n s rs t0 kn zs p st
  | 0, p, st, u, v, hu, hm, hc => by have := ht_pos u; omega
  | m + 1, p, st, u, v, hu, hm, hc => by
    intro g
    have hpl := subT_ht hu
    cases hr : ruleAt rs t0 p st with
    | none => rw [come_none hr] at hc; cases hc
    | some r =>
      have er := rule_spec' (F := F) (k := k + m + 1) (kn := kn) (zs := zs) (g := g) hb h ok hu (st := st)
      rw [hr] at er
      simp only at er
      obtain ⟨ru, u0, e1, e2, okr, hu0, hf, hd⟩ := rule_dos h hr
      rw [hu] at hu0; cases hu0
      have ec := come_some h hh hr
      rw [e2, hc] at ec
      obtain ⟨c1, c2, c3⟩ := comeB_tr ec.symm
      have eo := org_some h hh hr
      rw [e2] at eo
      have hpl2 := org_pl h hh _ (Nat.le_refl _) hu hc
      have hlen := og_len hpl2
      have hat : L2.atI (rs.map dR) (r : Int) = some (dR ru) := atI_nat (by rw [List.getElem?_map, e1]; rfl)
      have hbk := fun (g : Sto) => tst_bk (kn := kn) (zs := zs) (g := g) (t0 := t0) hb
      have hdR : dR ru = .tup [.int ru.s, dSp ru.sp, dP ru.p, dB ru.b] := rfl
      have ebz := okr.bz
      have ebh := okr.bh
      have hone := stkO_one (g := fun s' q => org rs t0 (p ++ q) s') (p := p) (r := r) ru.b
      obtain ⟨ρ', g', e, e4⟩ := orig_loop (F := F) (k := k + m + 7) (n := n) (s := s) (t0 := t0) (rs := rs) (kn := kn) (zs := zs) (p := p) (st := st) (r := r) (G := g) (by omega) F [([], ru.b)] [] none none none [] (by simp [szq']; omega) (by simp [szq']; omega) (by rw [hone, ← eo, hlen]; simp; omega)
        (fun x hx => by rw [List.mem_singleton.mp hx]; simp; omega)
        (fun x hx => by
          rw [List.mem_singleton.mp hx]
          refine ⟨⟨ru.p, okr.b⟩, fun d hd' => ?_⟩
          obtain ⟨v', hv'⟩ := c1 d hd'
          obtain ⟨a1, a2, a3, u', a4, a5⟩ := hd d hd'
          have hp' := org_pl h hh _ (Nat.le_refl _) a4 hv'
          obtain ⟨t1, t2, t3⟩ := come_tr h hh _ (Nat.le_refl _) a4 hv'
          have hl' := subT_ht a4
          refine ⟨a3, orig_all hF hb h ok hh hz m a4 (by omega) hv', fun o ho => ?_, by rw [og_len hp']; omega⟩
          have : o.h ∈ (plT v').map (·.1) := by rw [← hp']; exact List.mem_map.mpr ⟨o, ho, rfl⟩
          obtain ⟨q, hq, e⟩ := List.mem_map.mp this
          have := (plT_mem hq).2
          rw [← e]; omega)
      rw [hone, ← eo] at e
      show pr.call F ((k + m + 7) + 1) f_origins_at _ _ = _
      rw [u_origins_at]
      have hd0 : dPa [] = D.tup [] := rfl
      simp [dStk, hd0] at e
      simp [b_origins_at, l_origins_at, er, hbk, hat, hdR]
      rw [e]
      simp [e4]
      have hf := fin_newG (st := tst s n t0 kn zs g) (x := .lst ((org rs t0 p st).map dOg) :: g') (j := 0) (c := .lst ((org rs t0 p st).map dOg)) rfl (pls_locs (plDs_map fun o _ => by
        have e1 : plDs (o.h.map fun (i : Nat) => D.int i) = true := plDs_map fun _ _ => rfl
        have e2 : plDs (o.p.map fun (i : Nat) => D.int i) = true := plDs_map fun _ _ => rfl
        simp [dOg, dPa, plD, plDs, e1, e2]))
      simp at hf
      exact hf
end
end Law
namespace Law
open Z
theorem dOg_pl (l : List Og) : plDs (l.map dOg) = true := plDs_map fun o _ => by
  have e1 : plDs (o.h.map fun (i : Nat) => D.int i) = true := plDs_map fun _ _ => rfl
  have e2 : plDs (o.p.map fun (i : Nat) => D.int i) = true := plDs_map fun _ _ => rfl
  simp [dOg, dPa, plD, plDs, e1, e2]
section
variable {F k n : Nat} {s : Sto} {t0 : T} {rs : List Ru}
theorem origins_spec (hF : 1000 < F) (hb : s[n]? = some (.lst (rs.map dR))) (h : okBk rs) (ok : okT t0) (hh : ht t0 ≤ 12) (hz : sz t0 ≤ 60) :
    pr.call F (k + 21) f_origins [.loc n, dT t0] s = match come rs t0 [] 0 with | .big => .exc ⟨c_TooBig, none⟩ s | .non => .ok .non s | .tr _ => .ok (.loc s.length) (s ++ [.lst ((org rs t0 [] 0).map dOg)]) := by
  have e1 := need_book_spec F (k + 12) hb h
  have e2 := need_tree_spec F (k + 17) (t := t0) (st := s) (by omega) ok hz hh
  rcases told_by_spec (F := F) (k := k) hb h ok hh hz with ⟨c1, c2⟩ | ⟨c1, kn, zs, c2, c3, c4⟩
  · rw [c1, u_origins]
    simp [b_origins, e1, e2, c2]
    rw [fin_exc0 (fun i hi => .inl rfl)]
    simp
  · have hk : keyT (.tup [.tup [], .int 0]) = true := kP_key [] 0
    have c3' : dGet kn (.tup [.tup [], .int 0]) = some (dRes (come rs t0 [] 0)) := c3
    rw [u_origins]
    cases hc : come rs t0 [] 0 with
    | big => exact absurd hc c1
    | non =>
      rw [hc] at c3'
      simp [b_origins, e1, e2, c4, hk, c3', dRes]
      exact fin_old0 (st := s) (d := .non) rfl
    | tr v =>
      rw [hc] at c3'
      have e5 := orig_all (F := F) (k := k + 1) (n := n) (s := s) (kn := kn) (zs := zs) hF hb h ok hh hz 12 (p := []) (st := 0) (by rw [subT]) hh hc []
      have hne : dT v ≠ D.non := by cases v; rw [dT]; simp
      have hd0 : dPa [] = D.tup [] := rfl
      simp [hd0] at e5
      simp [b_origins, e1, e2, c4, hk, c3', dRes, hne, e5]
      exact fin_newG (st := s) (j := 3) (c := .lst ((org rs t0 [] 0).map dOg)) rfl (pls_locs (dOg_pl _))
end
end Law
namespace Law
open Z
theorem dPa_pl (p : List Nat) : plD (dPa p) = true := by
  have e1 : plDs (p.map fun (i : Nat) => D.int i) = true := plDs_map fun _ _ => rfl
  simp [dPa, plD, e1]
theorem dPa_dep (p : List Nat) : depD (dPa p) ≤ 2 := by
  unfold dPa
  have : depDs (p.map fun (i : Nat) => D.int i) ≤ 1 := depDs_map fun _ _ => by simp [depD]
  simp only [depD]; omega
theorem dPa_eq {a b : List Nat} : decide (dPa a = dPa b) = decide (a = b) := by
  by_cases h : a = b
  · simp [h]
  · simp [h]; exact fun z => h (dPa_inj z)
theorem eq_Pa {st : Sto} {a b : List Nat} : eqD st (dPa a) (dPa b) = some (decide (a = b)) := by
  rw [← dPa_eq]
  cases b with
  | nil => cases a <;> simp [dPa]
  | cons x b => exact eqG_pl (a := dPa a) (b := dPa (x :: b)) (dPa_pl a) (dPa_pl (x :: b)) (Nat.le_trans (dPa_dep a) (by decide))
section
variable {F k n : Nat} {s : Sto} {t0 : T} {rs : List Ru}
def heresAt (rs : List Ru) (t0 : T) (p : List Nat) : List (List Nat) := ((org rs t0 [] 0).filter fun o => decide (o.p = p)).map Og.h
theorem comes_of_spec (hF : 1000 < F) (hb : s[n]? = some (.lst (rs.map dR))) (h : okBk rs) (ok : okT t0) (hh : ht t0 ≤ 12) (hz : sz t0 ≤ 60) {v u : T} (hc : come rs t0 [] 0 = .tr v) {p : List Nat} (hp : subT t0 p = some u) :
    pr.call F (k + 22) f_comes_of [.loc n, dT t0, dPa p] s = .ok (.loc s.length) (s ++ [.lst ((heresAt rs t0 p).map dPa)]) := by
  have e1 := need_book_spec F (k + 13) hb h
  have e2 := need_tree_spec F (k + 18) (t := t0) (st := s) (by omega) ok hz hh
  have e3 := at_place_spec F (k + 20) (st := s) hp ok
  have e4 := origins_spec (F := F) (k := k) hF hb h ok hh hz
  rw [hc] at e4
  simp only at e4
  have hpl := org_pl h hh _ (Nat.le_refl _) (p := []) (s := 0) (by rw [subT]) hc
  have hlen := og_len hpl
  obtain ⟨t1, t2, t3⟩ := come_tr h hh _ (Nat.le_refl _) (p := []) (s := 0) (by rw [subT]) hc
  generalize hog : org rs t0 [] 0 = og at *
  have hcm : ev (pr.cl F (k + 21)) c_comes_of [some (.loc n), some (dT t0), some (dPa p), some (.loc s.length), none, none, none] (s ++ [.lst (og.map dOg)]) = .ok (.loc (s ++ [Cell.lst (og.map dOg)]).length) (s ++ [.lst (og.map dOg)] ++ [.lst ((og.filter fun o => decide (o.p = p)).map fun o => dPa o.h)]) := by
    refine comp_filt (u := dOg) (v := fun o => dPa o.h) (p := fun o => decide (o.p = p)) (l := og) (w := ⟨og.map dOg, some (s.length, .lst (og.map dOg))⟩) (s1 := s ++ [.lst (og.map dOg)]) ?_ (by simp [Wk.stays]) rfl (by show _ ≤ 100000; omega) fun o ho => ?_
    · simp
    · have := eq_Pa (st := s ++ [Cell.lst (og.map dOg)]) (a := o.p) (b := p)
      by_cases hop : o.p = p
      · simp [hop] at this
        simp [c_comes_ofi, c_comes_ofe, dOg, hop, this]
      · simp [hop] at this
        simp [c_comes_ofi, c_comes_ofe, dOg, hop, this]
  have hh2 : heresAt rs t0 p = (og.filter fun o => decide (o.p = p)).map Og.h := by unfold heresAt; rw [hog]
  rw [u_comes_of, hh2, List.map_map]
  simp at hcm
  simp [b_comes_of, e1, e2, e3, e4, hcm]
  exact fin_newG (st := s) (x := [.lst (og.map dOg), .lst ((og.filter fun o => decide (o.p = p)).map fun o => dPa o.h)]) (j := 1) (c := .lst ((og.filter fun o => decide (o.p = p)).map fun o => dPa o.h)) rfl (pls_locs (plDs_map fun o _ => dPa_pl o.h))
end
end Law
namespace Law
open Z
def dLt (c : Nat) : D := .str [c]
mutual
theorem labs_len : ∀ b : Bd, (labsB b).length ≤ szB b
  | .go s p => by rw [labsB, szB]; simp
  | .node c ks => by rw [labsB, szB, List.length_cons]; have := labss_len ks; omega
theorem labss_len : ∀ bs : List Bd, (labsBs bs).length ≤ szBs bs
  | [] => by rw [labsBs]; simp
  | b :: bs => by rw [labsBs, szBs, List.length_append]; have := labs_len b; have := labss_len bs; omega
end
theorem labels_spec (F : Nat) {P : Pt} : ∀ (k : Nat) (b : Bd) (st : Sto), htB b ≤ k → okB P b → szB b ≤ 1000 → pr.call F (k + 1) f_law_labels [dB b] st = .ok (.loc st.length) (st ++ [.lst ((labsB b).map dLt)]) := by
  intro k
  induction k with
  | zero => intro b st h1; have := htB_pos b; omega
  | succ k ih =>
    intro b st h1 ok hz
    rw [u_law_labels]
    cases b with
    | go s p =>
      rw [dB, labsB]
      simp [b_law_labels]
      exact fin_new1 rfl
    | node c ks =>
      rw [okB] at ok
      rw [htB] at h1
      rw [szB] at hz
      have locs : ∀ l : List Nat, locsC (.lst (l.map dLt)) = [] := fun l => by
        show locsDs _ = []
        induction l with
        | nil => rfl
        | cons a l ih => rw [List.map_cons, locsDs, ih]; rfl
      have turns : ∀ (us : List Bd) (A : List Nat) (v : Option D) (g : Sto) (j : Nat) (w : Wk), w.l = none → (∀ u ∈ us, u ∈ ks) → A.length + szBs us ≤ 1000 → g[j]? = some (.lst (A.map dLt)) → ∃ v' g' j', g'[j']? = some (.lst ((A ++ labsBs us).map dLt)) ∧
          loopF w (.name 2) (evSs (pr.cl F (k + 1)) F l_law_labelsb) (us.map dB) [some (dB (.node c ks)), some (.loc (st.length + j)), v] (st ++ g) =
            .ok .nx [some (dB (.node c ks)), some (.loc (st.length + j')), v'] (st ++ g') := by
        intro us
        induction us with
        | nil => exact fun A v g j w hw _ _ hj => ⟨v, g, j, by rw [labsBs, List.append_nil]; exact hj, loop_nil (stays_w hw)⟩
        | cons u us ihu =>
          intro A v g j w hw hm hA hj
          rw [szBs] at hA
          have hmem := hm u List.mem_cons_self
          have e := fun s1 => ih u s1 (by have := htBs_le hmem; omega) (okBs_mem ok.2.2 hmem) (by omega)
          have hl := labs_len u
          have hjl : j < g.length := (List.getElem?_eq_some_iff.mp hj).1
          obtain ⟨v', g', j', e1, e2⟩ := ihu (A ++ labsB u) (some (dB u)) (g ++ [.lst ((labsB u).map dLt), .lst ((A ++ labsB u).map dLt)]) (g.length + 1) w hw (fun x hx => hm x (List.mem_cons_of_mem _ hx)) (by rw [List.length_append]; omega) (by simp)
          refine ⟨v', g', j', by rw [labsBs, ← List.append_assoc]; exact e1, ?_⟩
          rw [← e2, List.map_cons]
          refine loop_cons (stays_w hw) rfl ?_ rfl
          have hlt : A.length + (labsB u).length ≤ 100000 := by omega
          have hj2 : (g ++ [Cell.lst ((labsB u).map dLt)])[j]? = some (.lst (A.map dLt)) := by rw [List.getElem?_append_left hjl, hj]
          simp [l_law_labelsb, e, hlt, hj, hj2, Nat.add_assoc]
      obtain ⟨v', g', j', e0, e⟩ := turns ks [c] none [.lst [dLt c]] 0 ⟨ks.map dB, none⟩ rfl (fun _ h => h) (by simp; omega) rfl
      rw [dB] at e ⊢
      rw [labsB]
      simp [dBs_map, dLt] at e
      simp [b_law_labels, l_law_labels, dBs_map, e]
      exact fin_newG (st := st) (x := g') (j := j') (c := .lst ((c :: labsBs ks).map dLt)) e0 (locs _)
mutual
theorem labs_ok {P : Pt} : ∀ {b : Bd}, okB P b → ∀ c ∈ labsB b, 97 ≤ c ∧ c ≤ 102
  | .go s p, h, c, hc => by rw [labsB] at hc; cases hc
  | .node d ks, h, c, hc => by
    rw [okB] at h
    rw [labsB] at hc
    rcases List.mem_cons.mp hc with rfl | hc
    · exact h.1
    · exact labss_ok h.2.2 c hc
theorem labss_ok {P : Pt} : ∀ {bs : List Bd}, okBs P bs → ∀ c ∈ labsBs bs, 97 ≤ c ∧ c ≤ 102
  | [], h, c, hc => by rw [labsBs] at hc; cases hc
  | b :: bs, h, c, hc => by
    rw [okBs] at h
    rw [labsBs] at hc
    rcases List.mem_append.mp hc with hc | hc
    · exact labs_ok h.1 c hc
    · exact labss_ok h.2 c hc
end
theorem labs_pl {P : Pt} (b : Bd) (ok : okB P b) : plDs ((labsB b).map dLt) = true := plDs_map fun c hc => by
  have := labs_ok ok c hc
  simp [dLt, plD, LIM]; omega
theorem og_ok {rs : List Ru} (hb : okBk rs) {t0 : T} (hh : ht t0 ≤ 12) : ∀ (n : Nat) {p : List Nat} {s : Nat} {u v : T}, ht u ≤ n → subT t0 p = some u → come rs t0 p s = .tr v → ∀ o ∈ org rs t0 p s, OgOk rs t0 v o
  | 0, p, s, u, v, hn, hu, h, o, ho => by have := ht_pos u; omega
  | n + 1, p, s, u, v, hn, hu, h, o, ho => by
    cases hr : ruleAt rs t0 p s with
    | none => rw [come_none hr] at h; cases h
    | some r =>
      rw [come_some hb hh hr] at h
      rw [org_some hb hh hr] at ho
      obtain ⟨ru, u0, e1, e2, ok, hu0, hf, hd⟩ := rule_dos hb hr
      rw [hu] at hu0; cases hu0
      obtain ⟨h1, h2, h3⟩ := comeB_tr h
      have hs : (rs.getD r ru0).s = s := by
        obtain ⟨_, _, _, hq⟩ := ruleAt_of hr
        unfold ruleB at hq
        simp only [Bool.and_eq_true, decide_eq_true_eq] at hq
        exact hq.1.1
      rw [h2]
      refine orgB_ok ⟨u, hu⟩ (by rw [hs]; exact hr) _ (fun c hc => hc) (fun d hd' o ho => ?_) o ho
      obtain ⟨v', hv'⟩ := h1 d hd'
      rw [e2] at hd'
      obtain ⟨_, a2, a3, u', hu', hl⟩ := hd d hd'
      rw [hv']
      exact og_ok hb hh n (by omega) hu' hv' o ho
end Law
namespace Law
open Z
/-- one side may be deep -/
theorem eqG_pl2 {st : Sto} {a b : D} (ha : plD a = true) (hb : plD b = true) (hd : depD b ≤ 60) : eqG st a b = some (decide (a = b)) := by
  unfold eqG
  rw [toP_pl ha, toP_pl hb]
  simp only
  rw [if_pos ⟨lay_pl ha, lay_pl hb, by have := dep_pl b; have h2 : min (pyD a).depth (pyD b).depth ≤ (pyD b).depth := Nat.min_le_right _ _; omega⟩, eqv_pl ha hb]
end Law
namespace Law
open Z
theorem flatMap_congr' {α β : Type} {f g : α → List β} : ∀ {l : List α}, (∀ x ∈ l, f x = g x) → l.flatMap f = l.flatMap g
  | [], _ => rfl
  | x :: l, h => by rw [List.flatMap_cons, List.flatMap_cons, h x List.mem_cons_self, flatMap_congr' fun y hy => h y (List.mem_cons_of_mem _ hy)]
theorem part_perm {α β : Type} [DecidableEq β] (f : α → β) : ∀ (ps : List β) (l : List α), ps.Nodup → (∀ a ∈ l, f a ∈ ps) → (ps.flatMap fun p => l.filter fun a => decide (f a = p)).Perm l
  | [], l, _, h => by
    cases l with
    | nil => exact .refl _
    | cons a l => have := h a List.mem_cons_self; cases this
  | p :: ps, l, hn, h => by
    rw [List.nodup_cons] at hn
    rw [List.flatMap_cons]
    have e : (ps.flatMap fun q => l.filter fun a => decide (f a = q)) = ps.flatMap fun q => (l.filter fun a => !decide (f a = p)).filter fun a => decide (f a = q) := by
      refine flatMap_congr' fun q hq => ?_
      rw [List.filter_filter]
      refine List.filter_congr fun a _ => ?_
      by_cases h1 : f a = q
      · have : f a ≠ p := fun z => hn.1 (by rw [← z, h1]; exact hq)
        simp [h1, this, show q ≠ p from fun z => hn.1 (z ▸ hq)]
      · simp [h1]
    rw [e]
    have ih := part_perm f ps (l.filter fun a => !decide (f a = p)) hn.2 fun a ha => by
      rw [List.mem_filter] at ha
      have h1 := h a ha.1
      rcases List.mem_cons.mp h1 with h2 | h2
      · simp [h2] at ha
      · exact h2
    exact (List.Perm.append_left _ ih).trans (List.filter_append_perm _ l)
end Law
namespace Law
open Z
theorem dpairs_at {t : T} {st : Sto} {j : Nat} (h : st[j]? = some (.lst ((plT t).map plD1))) : dpairsD (.loc j) st = .ok (.loc st.length) (st ++ [.dct (KDof t)]) := by
  unfold dpairsD plist
  simp [h, pairs_pl]
  rfl
section
variable {F k n o : Nat} {s : Sto} {t0 v : T} {rs : List Ru}
/-- the store of _law_right, behind its head -/
def rhs (s : Sto) (rs : List Ru) (t0 v : T) (g : Sto) : Sto := s ++ (.lst ((plT t0).map plD1) :: .dct (KDof t0) :: .lst ((org rs t0 [] 0).map fun x => dPa x.h) :: .lst ((plT v).map plD1) :: .lst ((plT v).map fun x => dPa x.1) :: .lst ((plT v).map plD1) :: .dct (KDof v) :: g)
theorem rhs_old {g : Sto} {i : Nat} (h : i < s.length) : (rhs s rs t0 v g)[i]? = s[i]? := by unfold rhs; rw [List.getElem?_append_left h]
theorem rhs_1 {g : Sto} : (rhs s rs t0 v g)[s.length + 1]? = some (.dct (KDof t0)) := by simp [rhs]
theorem rhs_6 {g : Sto} : (rhs s rs t0 v g)[s.length + 6]? = some (.dct (KDof v)) := by simp [rhs]
theorem rhs_app {g x : Sto} : rhs s rs t0 v g ++ x = rhs s rs t0 v (g ++ x) := by simp [rhs]
theorem rhs_len {g : Sto} : (rhs s rs t0 v g).length = s.length + 7 + g.length := by simp [rhs]; omega
theorem rhs_tl {g : Sto} {j : Nat} : (rhs s rs t0 v g)[s.length + 7 + j]? = g[j]? := by
  unfold rhs
  rw [List.getElem?_append_right (by omega), show s.length + 7 + j - s.length = j + 7 by omega]
  rfl
theorem right_body (hb : s[n]? = some (.lst (rs.map dR))) (h : okBk rs) (ok : okT t0) {x : Og} (hx : OgOk rs t0 v x) {w9 w10 w11 : Option D} (g : Sto) :
    ∃ w9' g', evSs (pr.cl F (k + 13)) F l_law_rightb [some (.loc n), some (dT t0), some (dT v), some (.loc o), some (.loc (s.length + 1)), some (.loc (s.length + 6)), some (dPa x.h), some (dPa x.p), some (.int x.r), w9, w10, w11] (rhs s rs t0 v g) =
      .ok .nx [some (.loc n), some (dT t0), some (dT v), some (.loc o), some (.loc (s.length + 1)), some (.loc (s.length + 6)), some (dPa x.h), some (dPa x.p), some (.int x.r), w9', w10, w11] (rhs s rs t0 v g') := by
  have hn : n < s.length := (List.getElem?_eq_some_iff.mp hb).1
  obtain ⟨⟨u, hu⟩, hr, c, ks, hs, hc⟩ := hx
  obtain ⟨ru, u0, e1, e2, okr, hu0, hf, hd⟩ := rule_dos h hr
  rw [hu] at hu0; cases hu0
  rw [e2] at hr hc
  have k1 : keyT (dPa x.p) = true := key_Pa x.p
  have k2 : keyT (dPa x.h) = true := key_Pa x.h
  have g1 : dGet (KDof t0) (dPa x.p) = some (dT u) := KD_get hu
  have g2 : dGet (KDof v) (dPa x.h) = some (dT (.node c ks)) := KD_get hs
  rw [dT] at g2
  have b0 : ∀ g, (rhs s rs t0 v g)[n]? = some (.lst (rs.map dR)) := fun g => by rw [rhs_old hn, hb]
  have hat : L2.atI (rs.map dR) (x.r : Int) = some (dR ru) := atI_nat (by rw [List.getElem?_map, e1]; rfl)
  have e3 := labels_spec F (P := ru.p) (k + 12) ru.b (rhs s rs t0 v g) (by have := okr.bh; omega) okr.b (by have := okr.bz; omega)
  have e4 : ∀ g, memS (rhs s rs t0 v g) (dLt c) ((labsB ru.b).map dLt) = some true := fun g => by
    have hcc := labs_ok okr.b c hc
    rw [memS_pl (by simp [dLt, plD, LIM]; omega) (labs_pl ru.b okr.b) (by simp [dLt, depD]) (Nat.le_trans (depDs_map (n := 1) fun a _ => by simp [dLt, depD]) (by decide))]
    simp [hc]
    exact ⟨c, hc, rfl⟩
  have e5 := fitting_spec F (k + 8) (n := n) (kd := s.length + 1) (s := ru.s) (st := rhs s rs t0 v (g ++ [.lst ((labsB ru.b).map dLt)])) (b0 _) h rhs_1 ok hu
  have e6 : ruleAt rs t0 x.p ru.s = (rulesAt rs t0 u x.p ru.s).head? := by unfold ruleAt; rw [hu]
  rw [hr] at e6
  cases hL : rulesAt rs t0 u x.p ru.s with
  | nil => rw [hL] at e6; cases e6
  | cons a L =>
    rw [hL] at e6 e5
    cases e6
    have hdR : dR ru = .tup [.int ru.s, dSp ru.sp, dP ru.p, dB ru.b] := rfl
    have g1' := g1
    simp only [dPa] at k1 k2 g1 g2
    simp only [dPa] at e5
    refine ⟨some (.loc (s.length + 7 + (g.length + 1))), g ++ [.lst ((labsB ru.b).map dLt), .lst ((x.r :: L).map dN), .lst []], ?_⟩
    rw [rhs_len] at e3 e5
    rw [rhs_app] at e3 e5
    simp only [dLt] at e4
    simp at e3 e5
    simp [l_law_rightb, dPa, rhs_1, rhs_6, k1, k2, g1, g2, b0, hat, hdR, e3, e5, e4, dN, dLt, ↓rhs_tl, rhs_app, rhs_len]
theorem right_loop (hb : s[n]? = some (.lst (rs.map dR))) (h : okBk rs) (ok : okT t0) {O : List Og} {w : Wk} (hw : ∀ g, w.stays (rhs s rs t0 v g) = true) : ∀ (L : List Og) (g : Sto) (w6 w7 w8 w9 w10 w11 : Option D), (∀ x ∈ L, OgOk rs t0 v x) → ∃ ρ' g',
    loopF w (.tup [6, 7, 8]) (evSs (pr.cl F (k + 13)) F l_law_rightb) (L.map dOg) [some (.loc n), some (dT t0), some (dT v), some (.loc o), some (.loc (s.length + 1)), some (.loc (s.length + 6)), w6, w7, w8, w9, w10, w11] (rhs s rs t0 v g) = .ok .nx ρ' (rhs s rs t0 v g')
  | [], g, w6, w7, w8, w9, w10, w11, _ => ⟨_, g, loop_nil (hw g)⟩
  | x :: L, g, w6, w7, w8, w9, w10, w11, hL => by
    obtain ⟨w9', g', e⟩ := right_body (F := F) (k := k) (o := o) hb h ok (hL x List.mem_cons_self) (w9 := w9) (w10 := w10) (w11 := w11) g
    obtain ⟨ρ', g'', e2⟩ := right_loop hb h ok (O := O) hw L g' (some (dPa x.h)) (some (dPa x.p)) (some (.int x.r)) w9' w10 w11 fun y hy => hL y (List.mem_cons_of_mem _ hy)
    refine ⟨ρ', g'', ?_⟩
    rw [List.map_cons]
    exact loop_cons (hw g) (by simp [dOg]) e e2
theorem right_spec (hb : s[n]? = some (.lst (rs.map dR))) (h : okBk rs) (ok : okT t0) (hh : ht t0 ≤ 12) (hz : sz t0 ≤ 60) (hc : come rs t0 [] 0 = .tr v) (ho : s[o]? = some (.lst ((org rs t0 [] 0).map dOg))) :
    pr.call F (k + 41) f_law_right [.loc n, dT t0, dT v, .loc o] s = .ok (.bl true) s := by
  obtain ⟨t1, t2, t3⟩ := come_tr h hh _ (Nat.le_refl _) (p := []) (s := 0) (by rw [subT]) hc
  have hpl := org_pl h hh _ (Nat.le_refl _) (p := []) (s := 0) (by rw [subT]) hc
  have hlen := og_len hpl
  have hog := og_ok h hh _ (Nat.le_refl _) (p := []) (s := 0) (by rw [subT]) hc
  have hn : o < s.length := (List.getElem?_eq_some_iff.mp ho).1
  have ep := fun st => law_places_spec F (k + 39) t0 st (by omega) ok (by omega) (by omega)
  have ev := fun st => law_places_spec F (k + 39) v st (by omega) t1 (by omega) (by omega)
  have c1 : ∀ st w4, st[o]? = some (.lst ((org rs t0 [] 0).map dOg)) → Z.ev (pr.cl F (k + 40)) c_law_right [some (.loc n), some (dT t0), some (dT v), some (.loc o), w4, none, none, none, none, none, none, none] st = .ok (.loc st.length) (st ++ [.lst ((org rs t0 [] 0).map fun x => dPa x.h)]) := fun st w4 h1 => by
    refine comp_map (u := dOg) (v := fun x => dPa x.h) (l := org rs t0 [] 0) (w := ⟨(org rs t0 [] 0).map dOg, some (o, .lst ((org rs t0 [] 0).map dOg))⟩) (s1 := st) ?_ (by simp [Wk.stays, h1]) rfl (by show _ ≤ 100000; omega) fun x hx => ?_
    · simp [h1]
    · simp [c_law_righte, dOg]
  have c2 : ∀ st w4, Z.ev (pr.cl F (k + 40)) c_law_right2 [some (.loc n), some (dT t0), some (dT v), some (.loc o), w4, none, none, none, none, none, none, none] st = .ok (.loc (st.length + 1)) (st ++ [.lst ((plT v).map plD1), .lst ((plT v).map fun x => dPa x.1)]) := fun st w4 => by
    have e1 := ev st
    have := comp_map (C := pr.cl F (k + 40)) (it := .it (.call f_law_places (.cons (.var 2) .nil))) (e := c_law_right2e) (co := .none) (tg := .tup [10, 11]) (own := [10, 11]) (ρ := [some (.loc n), some (dT t0), some (dT v), some (.loc o), w4, none, none, none, none, none, none, none]) (st := st) (u := plD1) (v := fun x => dPa x.1) (l := plT v) (w := ⟨(plT v).map plD1, some (st.length, .lst ((plT v).map plD1))⟩) (s1 := st ++ [.lst ((plT v).map plD1)]) (by simp [e1]) (by simp [Wk.stays]) rfl (by rw [plT_len]; show _ ≤ 100000; omega) fun x hx => by simp [c_law_right2e, plD1]
    simp at this
    exact this
  have hw : ∀ g, (Wk.mk ((org rs t0 [] 0).map dOg) (some (o, .lst ((org rs t0 [] 0).map dOg)))).stays (rhs s rs t0 v g) = true := fun g => by simp [Wk.stays, rhs_old hn, ho]
  obtain ⟨ρ', g', el⟩ := right_loop (F := F) (k := k + 27) (o := o) hb h ok (O := []) hw (org rs t0 [] 0) [] none none none none none none hog
  have heq : ∀ st (a b : Nat), st[a]? = some (.lst ((org rs t0 [] 0).map fun x => dPa x.h)) → st[b]? = some (.lst ((plT v).map fun x => dPa x.1)) → cmpD .ne (.loc a) (.loc b) st = .ok (.bl false) st := fun st a b ha hb => by
    have q : (org rs t0 [] 0).map (fun x => dPa x.h) = (plT v).map fun x => dPa x.1 := by
      have := congrArg (List.map dPa) hpl
      rw [List.map_map, List.map_map] at this
      exact this
    refine d_ne (b := true) ?_
    rw [eqL ha hb (plDs_map fun _ _ => dPa_pl _) (plDs_map fun _ _ => dPa_pl _) (Nat.le_trans (depDs_map (n := 2) fun _ _ => dPa_dep _) (by decide)), q]
    simp
  rw [u_law_right]
  have d1 : dpairsD (.loc s.length) (s ++ [.lst ((plT t0).map plD1)]) = .ok (.loc (s.length + 1)) (s ++ [.lst ((plT t0).map plD1), .dct (KDof t0)]) := by
    rw [dpairs_at (t := t0) (by simp)]; simp
  have d2 : dpairsD (.loc (s.length + 5)) (s ++ [.lst ((plT t0).map plD1), .dct (KDof t0), .lst ((org rs t0 [] 0).map fun x => dPa x.h), .lst ((plT v).map plD1), .lst ((plT v).map fun x => dPa x.1), .lst ((plT v).map plD1)]) =
      .ok (.loc (s.length + 6)) (s ++ [.lst ((plT t0).map plD1), .dct (KDof t0), .lst ((org rs t0 [] 0).map fun x => dPa x.h), .lst ((plT v).map plD1), .lst ((plT v).map fun x => dPa x.1), .lst ((plT v).map plD1), .dct (KDof v)]) := by
    rw [dpairs_at (t := v) (by simp)]; simp
  have q1 := heq (s ++ [.lst ((plT t0).map plD1), .dct (KDof t0), .lst ((org rs t0 [] 0).map fun x => dPa x.h), .lst ((plT v).map plD1), .lst ((plT v).map fun x => dPa x.1)]) (s.length + 2) (s.length + 4) (by simp) (by simp)
  have ho' : ∀ x : Sto, (s ++ x)[o]? = some (.lst ((org rs t0 [] 0).map dOg)) := fun x => by rw [List.getElem?_append_left hn, ho]
  unfold rhs at el
  simp [b_law_right, l_law_right, -o_ne, ep, ev, d1, d2, q1, ho', c1, c2]
  rw [el]
  simp
end
end Law
namespace Law
open Z
mutual
theorem plT_nd : ∀ t : T, ((plT t).map (·.1)).Nodup
  | .node c ks => by
    rw [plT, List.map_cons, List.nodup_cons]
    refine ⟨fun h => ?_, plTs_nd 0 ks⟩
    obtain ⟨p, hp, e⟩ := List.mem_map.mp h
    obtain ⟨k, r, e1, _⟩ := plTs_sub hp
    rw [e1] at e
    cases e
theorem plTs_nd : ∀ (i : Nat) (ts : List T), ((plTs i ts).map (·.1)).Nodup
  | i, [] => by rw [plTs]; exact List.nodup_nil
  | i, t :: ts => by
    rw [plTs, List.map_append, List.map_map]
    have e : ((fun x : List Nat × T => x.1) ∘ fun p : List Nat × T => (i :: p.1, p.2)) = (fun q => i :: q) ∘ (fun x : List Nat × T => x.1) := by funext o; rfl
    rw [e, ← List.map_map, List.nodup_append]
    refine ⟨?_, plTs_nd (i + 1) ts, fun a ha b hb => ?_⟩
    · exact List.Pairwise.map (fun q => i :: q) (fun a b hab h => hab (by simpa using h)) (plT_nd t)
    · rintro rfl
      obtain ⟨q, _, e1⟩ := List.mem_map.mp ha
      obtain ⟨p, hp, e2⟩ := List.mem_map.mp hb
      obtain ⟨k, r, e3, e4, _⟩ := plTs_sub hp
      rw [← e1, e3] at e2
      simp at e2
      omega
end
section
variable {F k n : Nat} {s : Sto} {t0 v : T} {rs : List Ru}
theorem heres_perm (h : okBk rs) (hh : ht t0 ≤ 12) (hc : come rs t0 [] 0 = .tr v) : (((plT t0).map (·.1)).flatMap fun p => heresAt rs t0 p).Perm ((org rs t0 [] 0).map Og.h) := by
  have hog := og_ok h hh _ (Nat.le_refl _) (p := []) (s := 0) (by rw [subT]) hc
  have := part_perm Og.p ((plT t0).map (·.1)) (org rs t0 [] 0) (plT_nd t0) fun o ho => by
    obtain ⟨u, hu⟩ := (hog o ho).pl
    exact List.mem_map.mpr ⟨(o.p, u), sub_pl hu, rfl⟩
  have := this.map Og.h
  rw [List.map_flatMap] at this
  exact this
theorem every_loop (hF : 1000 < F) (hb : s[n]? = some (.lst (rs.map dR))) (h : okBk rs) (ok : okT t0) (hh : ht t0 ≤ 12) (hz : sz t0 ≤ 60) (hc : come rs t0 [] 0 = .tr v) {w : Wk} (hw : ∀ g, w.stays (s ++ g) = true) {a0 a1 a2 a4 a6 a7 a11 a12 a13 : Option D} :
    ∀ (L : List (List Nat × T)) (A : List (List Nat)) (g : Sto) (m : Nat) (a9 a10 : Option D), (∀ x ∈ L, subT t0 x.1 = some x.2) → A.length + (L.flatMap fun x => heresAt rs t0 x.1).length ≤ 1000 → (s ++ g)[m]? = some (.lst (A.map dPa)) → ∃ b9 b10 g' m', (s ++ g')[m']? = some (.lst ((A ++ L.flatMap fun x => heresAt rs t0 x.1).map dPa)) ∧
      loopF w (.tup [9, 10]) (evSs (pr.cl F (k + 22)) F l_law2b) (L.map plD1) [a0, a1, a2, some (.loc n), a4, some (dT t0), a6, a7, some (.loc m), a9, a10, a11, a12, a13] (s ++ g) =
        .ok .nx [a0, a1, a2, some (.loc n), a4, some (dT t0), a6, a7, some (.loc m'), b9, b10, a11, a12, a13] (s ++ g')
  | [], A, g, m, a9, a10, _, _, hj => ⟨a9, a10, g, m, by simpa using hj, loop_nil (hw g)⟩
  | x :: L, A, g, m, a9, a10, hL, hA, hj => by
    have hn : n < s.length := (List.getElem?_eq_some_iff.mp hb).1
    have hjl : m < (s ++ g).length := (List.getElem?_eq_some_iff.mp hj).1
    rw [List.flatMap_cons, List.length_append] at hA
    have e := comes_of_spec (F := F) (k := k) (s := s ++ g) hF (by rw [List.getElem?_append_left hn, hb]) h ok hh hz hc (hL x List.mem_cons_self)
    obtain ⟨b9, b10, g', m', e1, e2⟩ := every_loop hF hb h ok hh hz hc hw L (A ++ heresAt rs t0 x.1) (g ++ [.lst ((heresAt rs t0 x.1).map dPa), .lst ((A ++ heresAt rs t0 x.1).map dPa)]) (s.length + (g.length + 1)) (some (dPa x.1)) (some (dT x.2)) (fun y hy => hL y (List.mem_cons_of_mem _ hy)) (by rw [List.length_append]; omega) (by simp)
    refine ⟨b9, b10, g', m', by rw [List.flatMap_cons, ← List.append_assoc]; exact e1, ?_⟩
    rw [List.map_cons, ← e2]
    refine loop_cons (hw g) (by simp [plD1]; rfl) ?_ rfl
    have hj2 : (s ++ (g ++ [Cell.lst ((heresAt rs t0 x.1).map dPa)]))[m]? = some (.lst (A.map dPa)) := by rw [← List.append_assoc, List.getElem?_append_left hjl, hj]
    simp at e
    simp [l_law2b, e, ↓hj2, (by omega : A.length + (heresAt rs t0 x.1).length ≤ 100000), Nat.add_assoc]
end
end Law
namespace Law
open Z
def KMAX : Nat := 115
def FUEL : Nat := 100000
theorem lawb_ok {rs : List Ru} (h : okBk rs) {L : Tx} {β1 β2 : Bx} {t : T} {g : Sto} {w0 w4 w5 w6 w7 w8 w9 w10 w11 w12 w13 : Option D} (ok : okT t) (hh : ht t ≤ 12) (hz : sz t ≤ 60) (et : pr.call FUEL 113 f_law_tree [.loc 0, .str L] (bx β1 (.lst (rs.map dR) :: g)) = .ok (dT t) (bx β2 (.lst (rs.map dR) :: g))) :
    ∃ v5 v6 v7 v8 v9 v10 v11 v12 v13 g', evSs (pr.cl FUEL 113) FUEL l_lawb [w0, some (.loc 0), some (.str L), some (.loc 2), w4, w5, w6, w7, w8, w9, w10, w11, w12, w13] (bx β1 (.lst (rs.map dR) :: g)) =
      .ok .nx [w0, some (.loc 0), some (.str L), some (.loc 2), w4, v5, v6, v7, v8, v9, v10, v11, v12, v13] (bx β2 (.lst (rs.map dR) :: g')) := by
  have hb : ∀ g, (bx β2 (.lst (rs.map dR) :: g))[2]? = some (.lst (rs.map dR)) := fun g => rfl
  have e1 : pr.call FUEL 113 f_told [.loc 2, dT t] (bx β2 (.lst (rs.map dR) :: g)) = _ := told_spec (F := FUEL) (k := 92) (by decide) (hb g) h ok hh hz
  have e2 : pr.call FUEL 113 f_origins [.loc 2, dT t] (bx β2 (.lst (rs.map dR) :: g)) = _ := origins_spec (F := FUEL) (k := 92) (by decide) (hb g) h ok hh hz
  have dTB : plD (.tup [.str [84, 111, 111, 66, 105, 103], .int 0]) = true := by decide
  cases hc : come rs t [] 0 with
  | big =>
    rw [hc] at e1 e2
    simp at e1 e2
    refine ⟨some (dT t), some (.tup [.str [84, 111, 111, 66, 105, 103], .int 0]), some (.tup [.str [84, 111, 111, 66, 105, 103], .int 0]), w8, w9, w10, w11, w12, w13, g, ?_⟩
    have q : ∀ st, eqD st (.tup [.str [84, 111, 111, 66, 105, 103], .int 0]) (.tup [.str [84, 111, 111, 66, 105, 103], .int 0]) = some true := fun st => by
      have e : eqD st (.tup [.str [84, 111, 111, 66, 105, 103], .int 0]) (.tup [.str [84, 111, 111, 66, 105, 103], .int 0]) = eqG st (.tup [.str [84, 111, 111, 66, 105, 103], .int 0]) (.tup [.str [84, 111, 111, 66, 105, 103], .int 0]) := rfl
      rw [e, eqG_pl dTB dTB (by decide)]; simp
    simp [l_lawb, et, e1, e2, q]
  | non =>
    rw [hc] at e1 e2
    simp [dRes] at e1 e2
    refine ⟨some (dT t), some .non, some .non, w8, w9, w10, w11, w12, w13, g, ?_⟩
    have q : ∀ st, eqD st .non .non = some true := fun st => by
      have e : eqD st .non .non = eqG st .non .non := rfl
      rw [e, eqG_pl rfl rfl (by decide)]; simp
    simp [l_lawb, et, e1, e2, q]
  | tr v =>
    rw [hc] at e1 e2
    obtain ⟨t1, t2, t3⟩ := come_tr h hh _ (Nat.le_refl _) (p := []) (s := 0) (by rw [subT]) hc
    have hne : dT v ≠ D.non := by cases v; rw [dT]; simp
    have q1 : ∀ st, eqD st (dT v) (.tup [.str [84, 111, 111, 66, 105, 103], .int 0]) = some false := fun st => by
      have e : eqD st (dT v) (.tup [.str [84, 111, 111, 66, 105, 103], .int 0]) = eqG st (dT v) (.tup [.str [84, 111, 111, 66, 105, 103], .int 0]) := by cases v; rw [dT]; rfl
      rw [e, eqG_pl2 (dT_pl t1) dTB (by decide)]
      have : ¬ (dT v = .tup [.str [84, 111, 111, 66, 105, 103], .int 0]) := by cases v; rw [dT]; simp
      simp [this]
    simp [dRes] at e1 e2
    have hS : ∀ x, (bx β2 (Cell.lst (List.map dR rs) :: (g ++ x))) = bx β2 (Cell.lst (List.map dR rs) :: g) ++ x := fun x => rfl
    have e3 := right_spec (F := FUEL) (k := 72) (n := 2) (o := g.length + 1 + 2) (s := bx β2 (Cell.lst (List.map dR rs) :: (g ++ [.lst ((org rs t [] 0).map dOg)]))) rfl h ok hh hz hc (by simp)
    have e3' : pr.call FUEL 113 f_law_right [.loc 2, dT t, dT v, .loc (g.length + 1 + 2)] (bx β2 (Cell.lst (List.map dR rs) :: (g ++ [.lst ((org rs t [] 0).map dOg)]))) = _ := e3
    have ep : ∀ st, pr.call FUEL 113 f_law_places [dT t] st = _ := fun st => law_places_spec FUEL 112 t st (by omega) ok (by omega) (by omega)
    simp [l_lawb, et, e1, e2, q1, hne, e3', ep]
    have hog := og_ok h hh _ (Nat.le_refl _) (p := []) (s := 0) (by rw [subT]) hc
    have hpl := org_pl h hh _ (Nat.le_refl _) (p := []) (s := 0) (by rw [subT]) hc
    have hlen := og_len hpl
    have hpm := heres_perm h hh hc
    have hfm : ((plT t).flatMap fun x => heresAt rs t x.1) = (((plT t).map (·.1)).flatMap fun p => heresAt rs t p) := by rw [List.flatMap_map]
    have hlen2 : ((plT t).flatMap fun x => heresAt rs t x.1).length = (org rs t [] 0).length := by rw [hfm, hpm.length_eq, List.length_map]
    obtain ⟨b9, b10, g', m', f1, f2⟩ := every_loop (F := FUEL) (k := 91) (n := 2) (s := bx β2 (Cell.lst (List.map dR rs) :: (g ++ [.lst ((org rs t [] 0).map dOg), .lst [], .lst ((plT t).map plD1)]))) (by decide) rfl h ok hh hz hc (w := ⟨(plT t).map plD1, some (g.length + 1 + 1 + 1 + 2, .lst ((plT t).map plD1))⟩)
      (fun x => by simp [Wk.stays]) (a0 := w0) (a1 := some (.loc 0)) (a2 := some (.str L)) (a4 := w4) (a6 := some (dT v)) (a7 := some (.loc (g.length + 1 + 2))) (a11 := w11) (a12 := w12) (a13 := w13) (plT t) [] [] (g.length + 1 + 1 + 2) w9 w10 (fun x hx => plT_sub hx) (by simp only [List.length_nil]; omega) (by simp)
    simp only [List.nil_append, hfm] at f1 f2
    simp only [bx_app, List.cons_append, List.append_assoc, List.nil_append] at f1
    simp at f2
    generalize hEV : (((plT t).map (·.1)).flatMap fun p => heresAt rs t p) = EV at f1 hpm
    have f0 : (bx β2 (Cell.lst (List.map dR rs) :: (g ++ Cell.lst (List.map dOg (org rs t [] 0)) :: Cell.lst [] :: Cell.lst (List.map plD1 (plT t)) :: g')))[g.length + 1 + 2]? = some (.lst ((org rs t [] 0).map dOg)) := by simp
    have hfin : bx β2 (Cell.lst (List.map dR rs) :: (g ++ Cell.lst (List.map dOg (org rs t [] 0)) :: Cell.lst [] :: Cell.lst (List.map plD1 (plT t)) :: g')) ++ [.lst (srtP (EV.map dPa)), .lst ((org rs t [] 0).map fun x => dPa x.h), .lst (srtP (EV.map dPa))] = bx β2 (Cell.lst (List.map dR rs) :: (g ++ Cell.lst (List.map dOg (org rs t [] 0)) :: Cell.lst [] :: Cell.lst (List.map plD1 (plT t)) :: (g' ++ [.lst (srtP (EV.map dPa)), .lst ((org rs t [] 0).map fun x => dPa x.h), .lst (srtP (EV.map dPa))]))) := by simp
    refine ⟨some (dT t), some (dT v), some (.loc (g.length + 1 + 2)), some (.loc m'), b9, b10, w11, w12, w13, g ++ .lst ((org rs t [] 0).map dOg) :: .lst [] :: .lst ((plT t).map plD1) :: (g' ++ [.lst (srtP (EV.map dPa)), .lst ((org rs t [] 0).map fun x => dPa x.h), .lst (srtP (EV.map dPa))]), ?_⟩
    simp [l_law2, ep, f2]
    generalize (bx β2 (Cell.lst (List.map dR rs) :: (g ++ Cell.lst (List.map dOg (org rs t [] 0)) :: Cell.lst [] :: Cell.lst (List.map plD1 (plT t)) :: g'))) = S1 at *
    rw [← hfin]
    have s1 := srtD_Pa f1
    have c1 : ev (pr.cl FUEL 113) c_law [w0, some (.loc 0), some (.str L), some (.loc 2), w4, some (dT t), some (dT v), some (.loc (g.length + 1 + 2)), some (.loc m'), b9, b10, w11, w12, w13] (S1 ++ [.lst (srtP (EV.map dPa))]) = .ok (.loc (S1 ++ [Cell.lst (srtP (EV.map dPa))]).length) (S1 ++ [.lst (srtP (EV.map dPa))] ++ [.lst ((org rs t [] 0).map fun x => dPa x.h)]) := by
      have f3 : (S1 ++ [Cell.lst (srtP (EV.map dPa))])[g.length + 1 + 2]? = some (.lst ((org rs t [] 0).map dOg)) := by rw [List.getElem?_append_left (List.getElem?_eq_some_iff.mp f0).1, f0]
      refine comp_map (u := dOg) (v := fun x => dPa x.h) (l := org rs t [] 0) (w := ⟨(org rs t [] 0).map dOg, some (g.length + 1 + 2, .lst ((org rs t [] 0).map dOg))⟩) (s1 := S1 ++ [.lst (srtP (EV.map dPa))]) ?_ (by simp only [Wk.stays, f3]; simp) rfl (by show _ ≤ 100000; omega) fun x hx => ?_
      · simp [↓f3]
      · simp [c_lawe, dOg]
    have s2 := srtD_Pa (st := S1 ++ [.lst (srtP (EV.map dPa))] ++ [.lst ((org rs t [] 0).map fun x => dPa x.h)]) (n := S1.length + 1) (ps := (org rs t [] 0).map Og.h) (by simp [List.map_map])
    rw [← srtP_Pa hpm] at s2
    have q3 := eqL (st := S1 ++ [.lst (srtP (EV.map dPa))] ++ [.lst ((org rs t [] 0).map fun x => dPa x.h)] ++ [.lst (srtP (EV.map dPa))]) (n := S1.length) (m := S1.length + 2) (xs := srtP (EV.map dPa)) (ys := srtP (EV.map dPa)) (by simp) (by simp)
      (plDs_of fun x hx => by obtain ⟨p, _, rfl⟩ := List.mem_map.mp (srtP_mem.mp hx); exact dPa_pl p) (plDs_of fun x hx => by obtain ⟨p, _, rfl⟩ := List.mem_map.mp (srtP_mem.mp hx); exact dPa_pl p)
      (depDs_of fun x hx => by obtain ⟨p, _, rfl⟩ := List.mem_map.mp (srtP_mem.mp hx); exact Nat.le_trans (dPa_dep p) (by decide))
    generalize srtP (EV.map dPa) = SL at *
    simp at c1 s2 q3
    simp [s1, c1, s2, q3]
theorem law_ev : ∀ ns : List Int, ns.length ≤ 63 → ∃ st, pr.call FUEL KMAX f_law [.fl (ns.map D.int)] [] = .ok (.bl true) st := by
  intro ns hns
  obtain ⟨β0, e0⟩ := begun_spec FUEL 112 hns
  obtain ⟨L, β1, hL, e1⟩ := letters_spec FUEL 111 β0
  obtain ⟨rs, β2, h, e2⟩ := book_spec FUEL 102 hL β1
  have hi4 : iLim 4 := by unfold iLim; omega
  obtain ⟨ρ', st', e4, β3, w4, w5, w6, w7, w8, w9, w10, w11, w12, w13, g3, rfl, rfl⟩ := for_rng (n := 4) (tg := .name 4) (b := evSs (pr.cl FUEL 113) FUEL l_lawb) (ρ := [some (.fl (ns.map D.int)), some (.loc 0), some (.str L), some (.loc 2), none, none, none, none, none, none, none, none, none, none]) (st := bx β2 [.lst (rs.map dR)])
    (fun _ ρ s => ∃ β w4 w5 w6 w7 w8 w9 w10 w11 w12 w13 g, ρ = [some (.fl (ns.map D.int)), some (.loc 0), some (.str L), some (.loc 2), w4, w5, w6, w7, w8, w9, w10, w11, w12, w13] ∧ s = bx β (.lst (rs.map dR) :: g))
    (by
      rintro i ρ s hi ⟨β, w4, w5, w6, w7, w8, w9, w10, w11, w12, w13, g, rfl, rfl⟩
      obtain ⟨t, β1, ok, hd, hs, e5⟩ := tree_spec FUEL 98 hL β
      obtain ⟨v5, v6, v7, v8, v9, v10, v11, v12, v13, g', e6⟩ := lawb_ok (w0 := some (.fl (ns.map D.int))) (w4 := some (.int (i : Int))) (w5 := w5) (w6 := w6) (w7 := w7) (w8 := w8) (w9 := w9) (w10 := w10) (w11 := w11) (w12 := w12) (w13 := w13) h ok hd hs (e5 _)
      exact ⟨_, _, _, rfl, .inl e6, _, _, _, _, _, _, _, _, _, _, _, _, rfl, rfl⟩) ⟨β2, none, none, none, none, none, none, none, none, none, none, [], rfl, rfl⟩
  have e4' : loopF (rngW 0 4) (IT.name 4) (evSs (pr.cl FUEL 113) FUEL l_lawb) (rngW 0 4).xs [some (.fl (ns.map D.int)), some (.loc 0), some (.str L), some (.loc 2), none, none, none, none, none, none, none, none, none, none] (bx β2 [.lst (rs.map dR)]) = _ := e4
  have e2' := e2 []
  refine ⟨[], ?_⟩
  show pr.call FUEL (113 + 2) f_law _ [] = _
  rw [u_law]
  simp at e2'
  simp [b_law, e0, e1, e2', l_law, hi4, e4']
  rw [finish_old (oldOk_nil _) rfl]
  rfl
end Law
/-! ### the IR stands in the row; the end (printed by gen.py) -/
namespace Law
open Z PySem L2
def top (i : Nat) : Stmt := PySem.Challenge.pw_treetellers_k11_whole_each_part_by_its_r.main.body.getD i (.Pass ⟨0, 0, 0, 0⟩)
def cc : CC := ⟨[(("law" : Str), f_law), (("_law_begun" : Str), f_law_begun), (("_law_letters" : Str), f_law_letters), (("_law_book" : Str), f_law_book), (("_law_tree" : Str), f_law_tree), (("told" : Str), f_told), (("origins" : Str), f_origins), (("_law_right" : Str), f_law_right), (("_law_places" : Str), f_law_places), (("comes_of" : Str), f_comes_of), (("_law_take" : Str), f_law_take), (("_law_rule" : Str), f_law_rule), (("_law_grown" : Str), f_law_grown), (("need_book" : Str), f_need_book), (("need_tree" : Str), f_need_tree), (("told_by" : Str), f_told_by), (("origins_at" : Str), f_origins_at), (("_law_labels" : Str), f_law_labels), (("_law_fitting" : Str), f_law_fitting), (("at_place" : Str), f_at_place), (("_law_pattern" : Str), f_law_pattern), (("_law_parts" : Str), f_law_parts), (("_law_paths" : Str), f_law_paths), (("_law_build" : Str), f_law_build), (("is_rule" : Str), f_is_rule), (("is_node" : Str), f_is_node), (("_law_fits" : Str), f_law_fits), (("is_spot" : Str), f_is_spot), (("is_number" : Str), f_is_number), (("pattern_parts" : Str), f_pattern_parts), (("build_parts" : Str), f_build_parts), (("is_label" : Str), f_is_label), (("dos_of" : Str), f_dos_of), (("rules_at" : Str), f_rules_at), (("above" : Str), f_above), (("has_path" : Str), f_has_path), (("fits" : Str), f_fits), (("is_at" : Str), f_is_at)],
  [("Telling", c_Telling)],
  [(("ANY" : Str), g_ANY), (("DO" : Str), g_DO), (("LABELS" : Str), g_LABELS), (("LEAF" : Str), g_LEAF), (("MOST_BUILD" : Str), g_MOST_BUILD), (("MOST_BUILD_DEEP" : Str), g_MOST_BUILD_DEEP), (("MOST_DEEP" : Str), g_MOST_DEEP), (("MOST_KIDS" : Str), g_MOST_KIDS), (("MOST_PARTS" : Str), g_MOST_PARTS), (("MOST_PATTERN_DEEP" : Str), g_MOST_PATTERN_DEEP), (("MOST_PLACES" : Str), g_MOST_PLACES), (("MOST_RULES" : Str), g_MOST_RULES), (("MOST_STATE" : Str), g_MOST_STATE), (("MOST_TOLD" : Str), g_MOST_TOLD)],
  [("bool" : Str), ("dict" : Str), ("enumerate" : Str), ("int" : Str), ("isinstance" : Str), ("len" : Str), ("list" : Str), ("range" : Str), ("sorted" : Str), ("str" : Str), ("sum" : Str), ("tuple" : Str)],
  [("reach", m_reach), ("rule", m_rule), ("parts", m_parts), ("built", m_built)],
  ["known", "book", "tree", "sizes"],
  [("BadPlace", c_BadPlace), ("TooBig", c_TooBig)],
  [("BadBook", (c_BadBook, n_number)), ("BadTree", (c_BadTree, n_place))], some "_law_told", none⟩
abbrev s_law : Stmt := top 72
abbrev N_law : List Str := ["_law_script", "_law_box", "_law_letters_here", "_law_book_here", "_law_turn", "_law_tree_here", "_law_come", "_law_some", "_law_every", "_law_place", "_law_part", "_law_here", "_law_whence", "_law_rule_here"]
abbrev P_law : List Str := ["_law_script"]
theorem sc_law : FnScope N_law P_law (defScope s_law) := ⟨rfl, rfl, rfl, by decide +kernel, rfl, by decide +kernel, by decide +kernel⟩
theorem ck_law (c : Addr) (q : Str) : chkSs { cc with lam := some (c, q) } N_law (defScope s_law) b_law (defBody s_law) = true := by kernel_rfl
abbrev s_law_begun : Stmt := top 52
abbrev N_law_begun : List Str := ["_law_script", "_law_stirred", "_law_cell"]
abbrev P_law_begun : List Str := ["_law_script"]
theorem sc_law_begun : FnScope N_law_begun P_law_begun (defScope s_law_begun) := ⟨rfl, rfl, rfl, by decide +kernel, rfl, by decide +kernel, by decide +kernel⟩
theorem ck_law_begun : chkSs cc N_law_begun (defScope s_law_begun) b_law_begun (defBody s_law_begun) = true := by decide +kernel
abbrev s_law_letters : Stmt := top 59
abbrev N_law_letters : List Str := ["_law_box", "_law_left", "_law_k"]
abbrev P_law_letters : List Str := ["_law_box"]
theorem sc_law_letters : FnScope N_law_letters P_law_letters (defScope s_law_letters) := ⟨rfl, rfl, rfl, by decide +kernel, rfl, by decide +kernel, by decide +kernel⟩
theorem ck_law_letters : chkSs cc N_law_letters (defScope s_law_letters) b_law_letters (defBody s_law_letters) = true := by decide +kernel
abbrev s_law_book : Stmt := top 66
abbrev N_law_book : List Str := ["_law_box", "_law_letters_here", "_law_left", "_law_states", "_law_found", "_law_state", "_law_k"]
abbrev P_law_book : List Str := ["_law_box", "_law_letters_here"]
theorem sc_law_book : FnScope N_law_book P_law_book (defScope s_law_book) := ⟨rfl, rfl, rfl, by decide +kernel, rfl, by decide +kernel, by decide +kernel⟩
theorem ck_law_book : chkSs cc N_law_book (defScope s_law_book) b_law_book (defBody s_law_book) = true := by decide +kernel
abbrev s_law_tree : Stmt := top 58
abbrev N_law_tree : List Str := ["_law_box", "_law_letters_here", "_law_most"]
abbrev P_law_tree : List Str := ["_law_box", "_law_letters_here"]
theorem sc_law_tree : FnScope N_law_tree P_law_tree (defScope s_law_tree) := ⟨rfl, rfl, rfl, by decide +kernel, rfl, by decide +kernel, by decide +kernel⟩
theorem ck_law_tree : chkSs cc N_law_tree (defScope s_law_tree) b_law_tree (defBody s_law_tree) = true := by decide +kernel
abbrev s_told : Stmt := top 46
abbrev N_told : List Str := ["book", "tree"]
abbrev P_told : List Str := ["book", "tree"]
theorem sc_told : FnScope N_told P_told (defScope s_told) := ⟨rfl, rfl, rfl, by decide +kernel, rfl, by decide +kernel, by decide +kernel⟩
theorem ck_told : chkSs cc N_told (defScope s_told) b_told (defBody s_told) = true := by decide +kernel
abbrev s_origins : Stmt := top 49
abbrev N_origins : List Str := ["book", "tree", "telling"]
abbrev P_origins : List Str := ["book", "tree"]
theorem sc_origins : FnScope N_origins P_origins (defScope s_origins) := ⟨rfl, rfl, rfl, by decide +kernel, rfl, by decide +kernel, by decide +kernel⟩
theorem ck_origins : chkSs cc N_origins (defScope s_origins) b_origins (defBody s_origins) = true := by decide +kernel
abbrev s_law_right : Stmt := top 71
abbrev N_law_right : List Str := ["_law_book_here", "_law_tree_here", "_law_come", "_law_some", "_law_known", "_law_parts_here", "_law_here", "_law_whence", "_law_rule_here", "_law_fit", "_law_place", "_law_part"]
abbrev P_law_right : List Str := ["_law_book_here", "_law_tree_here", "_law_come", "_law_some"]
theorem sc_law_right : FnScope N_law_right P_law_right (defScope s_law_right) := ⟨rfl, rfl, rfl, by decide +kernel, rfl, by decide +kernel, by decide +kernel⟩
theorem ck_law_right : chkSs cc N_law_right (defScope s_law_right) b_law_right (defBody s_law_right) = true := by decide +kernel
abbrev s_law_places : Stmt := top 60
abbrev N_law_places : List Str := ["_law_tree_here", "_law_found", "_law_k", "_law_place", "_law_part"]
abbrev P_law_places : List Str := ["_law_tree_here"]
theorem sc_law_places : FnScope N_law_places P_law_places (defScope s_law_places) := ⟨rfl, rfl, rfl, by decide +kernel, rfl, by decide +kernel, by decide +kernel⟩
theorem ck_law_places : chkSs cc N_law_places (defScope s_law_places) b_law_places (defBody s_law_places) = true := by decide +kernel
abbrev s_comes_of : Stmt := top 50
abbrev N_comes_of : List Str := ["book", "tree", "place", "some", "here", "whence", "number"]
abbrev P_comes_of : List Str := ["book", "tree", "place"]
theorem sc_comes_of : FnScope N_comes_of P_comes_of (defScope s_comes_of) := ⟨rfl, rfl, rfl, by decide +kernel, rfl, by decide +kernel, by decide +kernel⟩
theorem ck_comes_of : chkSs cc N_comes_of (defScope s_comes_of) b_comes_of (defBody s_comes_of) = true := by decide +kernel
abbrev s_law_take : Stmt := top 53
abbrev N_law_take : List Str := ["_law_box", "_law_many", "_law_number"]
abbrev P_law_take : List Str := ["_law_box", "_law_many"]
theorem sc_law_take : FnScope N_law_take P_law_take (defScope s_law_take) := ⟨rfl, rfl, rfl, by decide +kernel, rfl, by decide +kernel, by decide +kernel⟩
theorem ck_law_take : chkSs cc N_law_take (defScope s_law_take) b_law_take (defBody s_law_take) = true := by decide +kernel
abbrev s_law_rule : Stmt := top 65
abbrev N_law_rule : List Str := ["_law_box", "_law_letters_here", "_law_states", "_law_pattern_here", "_law_paths_here", "_law_build_here", "_law_spots"]
abbrev P_law_rule : List Str := ["_law_box", "_law_letters_here", "_law_states"]
theorem sc_law_rule : FnScope N_law_rule P_law_rule (defScope s_law_rule) := ⟨rfl, rfl, rfl, by decide +kernel, rfl, by decide +kernel, by decide +kernel⟩
theorem ck_law_rule : chkSs cc N_law_rule (defScope s_law_rule) b_law_rule (defBody s_law_rule) = true := by decide +kernel
abbrev s_law_grown : Stmt := top 57
abbrev N_law_grown : List Str := ["_law_box", "_law_letters_here", "_law_left", "_law_deep", "_law_kids", "_law_k"]
abbrev P_law_grown : List Str := ["_law_box", "_law_letters_here", "_law_left", "_law_deep"]
theorem sc_law_grown : FnScope N_law_grown P_law_grown (defScope s_law_grown) := ⟨rfl, rfl, rfl, by decide +kernel, rfl, by decide +kernel, by decide +kernel⟩
theorem ck_law_grown : chkSs cc N_law_grown (defScope s_law_grown) b_law_grown (defBody s_law_grown) = true := by decide +kernel
abbrev s_need_book : Stmt := top 37
abbrev N_need_book : List Str := ["book", "number", "rule"]
abbrev P_need_book : List Str := ["book"]
theorem sc_need_book : FnScope N_need_book P_need_book (defScope s_need_book) := ⟨rfl, rfl, rfl, by decide +kernel, rfl, by decide +kernel, by decide +kernel⟩
theorem ck_need_book : chkSs cc N_need_book (defScope s_need_book) b_need_book (defBody s_need_book) = true := by decide +kernel
abbrev s_need_tree : Stmt := top 18
abbrev N_need_tree : List Str := ["tree", "left", "many", "kids", "place", "part", "k"]
abbrev P_need_tree : List Str := ["tree"]
theorem sc_need_tree : FnScope N_need_tree P_need_tree (defScope s_need_tree) := ⟨rfl, rfl, rfl, by decide +kernel, rfl, by decide +kernel, by decide +kernel⟩
theorem ck_need_tree : chkSs cc N_need_tree (defScope s_need_tree) b_need_tree (defBody s_need_tree) = true := by decide +kernel
abbrev s_told_by : Stmt := top 45
abbrev N_told_by : List Str := ["book", "tree", "telling"]
abbrev P_told_by : List Str := ["book", "tree"]
theorem sc_told_by : FnScope N_told_by P_told_by (defScope s_told_by) := ⟨rfl, rfl, rfl, by decide +kernel, rfl, by decide +kernel, by decide +kernel⟩
theorem ck_told_by : chkSs cc N_told_by (defScope s_told_by) b_told_by (defBody s_told_by) = true := by decide +kernel
abbrev s_origins_at : Stmt := top 48
abbrev N_origins_at : List Str := ["telling", "place", "state", "number", "found", "left", "here", "build", "some", "within", "whence", "rule", "k"]
abbrev P_origins_at : List Str := ["telling", "place", "state"]
theorem sc_origins_at : FnScope N_origins_at P_origins_at (defScope s_origins_at) := ⟨rfl, rfl, rfl, by decide +kernel, rfl, by decide +kernel, by decide +kernel⟩
theorem ck_origins_at : chkSs cc N_origins_at (defScope s_origins_at) b_origins_at (defBody s_origins_at) = true := by decide +kernel
abbrev s_law_labels : Stmt := top 70
abbrev N_law_labels : List Str := ["_law_build_here", "_law_found", "_law_kid"]
abbrev P_law_labels : List Str := ["_law_build_here"]
theorem sc_law_labels : FnScope N_law_labels P_law_labels (defScope s_law_labels) := ⟨rfl, rfl, rfl, by decide +kernel, rfl, by decide +kernel, by decide +kernel⟩
theorem ck_law_labels : chkSs cc N_law_labels (defScope s_law_labels) b_law_labels (defBody s_law_labels) = true := by decide +kernel
abbrev s_law_fitting : Stmt := top 68
abbrev N_law_fitting : List Str := ["_law_book_here", "_law_state", "_law_place", "_law_known", "_law_found", "_law_number", "_law_is_there", "_law_mine", "_law_spot", "_law_pattern_here", "_law_build_here"]
abbrev P_law_fitting : List Str := ["_law_book_here", "_law_state", "_law_place", "_law_known"]
theorem sc_law_fitting : FnScope N_law_fitting P_law_fitting (defScope s_law_fitting) := ⟨rfl, rfl, rfl, by decide +kernel, rfl, by decide +kernel, by decide +kernel⟩
theorem ck_law_fitting : chkSs cc N_law_fitting (defScope s_law_fitting) b_law_fitting (defBody s_law_fitting) = true := by decide +kernel
abbrev s_at_place : Stmt := top 19
abbrev N_at_place : List Str := ["tree", "place", "k"]
abbrev P_at_place : List Str := ["tree", "place"]
theorem sc_at_place : FnScope N_at_place P_at_place (defScope s_at_place) := ⟨rfl, rfl, rfl, by decide +kernel, rfl, by decide +kernel, by decide +kernel⟩
theorem ck_at_place : chkSs cc N_at_place (defScope s_at_place) b_at_place (defBody s_at_place) = true := by decide +kernel
abbrev s_law_pattern : Stmt := top 61
abbrev N_law_pattern : List Str := ["_law_box", "_law_letters_here", "_law_deep", "_law_way", "_law_many", "_law_k"]
abbrev P_law_pattern : List Str := ["_law_box", "_law_letters_here", "_law_deep"]
theorem sc_law_pattern : FnScope N_law_pattern P_law_pattern (defScope s_law_pattern) := ⟨rfl, rfl, rfl, by decide +kernel, rfl, by decide +kernel, by decide +kernel⟩
theorem ck_law_pattern : chkSs cc N_law_pattern (defScope s_law_pattern) b_law_pattern (defBody s_law_pattern) = true := by decide +kernel
abbrev s_law_parts : Stmt := top 64
abbrev N_law_parts : List Str := ["_law_part", "_law_kid"]
abbrev P_law_parts : List Str := ["_law_part"]
theorem sc_law_parts : FnScope N_law_parts P_law_parts (defScope s_law_parts) := ⟨rfl, rfl, rfl, by decide +kernel, rfl, by decide +kernel, by decide +kernel⟩
theorem ck_law_parts : chkSs cc N_law_parts (defScope s_law_parts) b_law_parts (defBody s_law_parts) = true := by decide +kernel
abbrev s_law_paths : Stmt := top 62
abbrev N_law_paths : List Str := ["_law_pattern_here", "_law_found", "_law_k", "_law_j"]
abbrev P_law_paths : List Str := ["_law_pattern_here"]
theorem sc_law_paths : FnScope N_law_paths P_law_paths (defScope s_law_paths) := ⟨rfl, rfl, rfl, by decide +kernel, rfl, by decide +kernel, by decide +kernel⟩
theorem ck_law_paths : chkSs cc N_law_paths (defScope s_law_paths) b_law_paths (defBody s_law_paths) = true := by decide +kernel
abbrev s_law_build : Stmt := top 63
abbrev N_law_build : List Str := ["_law_box", "_law_letters_here", "_law_states", "_law_paths_here", "_law_deep", "_law_many", "_law_kids", "_law_k"]
abbrev P_law_build : List Str := ["_law_box", "_law_letters_here", "_law_states", "_law_paths_here", "_law_deep"]
theorem sc_law_build : FnScope N_law_build P_law_build (defScope s_law_build) := ⟨rfl, rfl, rfl, by decide +kernel, rfl, by decide +kernel, by decide +kernel⟩
theorem ck_law_build : chkSs cc N_law_build (defScope s_law_build) b_law_build (defBody s_law_build) = true := by decide +kernel
abbrev s_is_rule : Stmt := top 36
abbrev N_is_rule : List Str := ["rule"]
abbrev P_is_rule : List Str := ["rule"]
theorem sc_is_rule : FnScope N_is_rule P_is_rule (defScope s_is_rule) := ⟨rfl, rfl, rfl, by decide +kernel, rfl, by decide +kernel, by decide +kernel⟩
theorem ck_is_rule : chkSs cc N_is_rule (defScope s_is_rule) b_is_rule (defBody s_is_rule) = true := by decide +kernel
abbrev s_is_node : Stmt := top 17
abbrev N_is_node : List Str := ["tree"]
abbrev P_is_node : List Str := ["tree"]
theorem sc_is_node : FnScope N_is_node P_is_node (defScope s_is_node) := ⟨rfl, rfl, rfl, by decide +kernel, rfl, by decide +kernel, by decide +kernel⟩
theorem ck_is_node : chkSs cc N_is_node (defScope s_is_node) b_is_node (defBody s_is_node) = true := by decide +kernel
abbrev s_Telling_init : Stmt := inClass (top 44) 0
abbrev N_Telling_init : List Str := ["self", "book", "tree"]
abbrev P_Telling_init : List Str := ["self", "book", "tree"]
theorem sc_Telling_init : FnScope N_Telling_init P_Telling_init (defScope s_Telling_init) := ⟨rfl, rfl, rfl, by decide +kernel, rfl, by decide +kernel, by decide +kernel⟩
theorem ck_Telling_init : chkSs cc N_Telling_init (defScope s_Telling_init) b_Telling_init (defBody s_Telling_init) = true := by decide +kernel
abbrev s_Telling_reach : Stmt := inClass (top 44) 2
abbrev N_Telling_reach : List Str := ["self", "place", "state", "number", "found", "build", "some", "do"]
abbrev P_Telling_reach : List Str := ["self", "place", "state"]
theorem sc_Telling_reach : FnScope N_Telling_reach P_Telling_reach (defScope s_Telling_reach) := ⟨rfl, rfl, rfl, by decide +kernel, rfl, by decide +kernel, by decide +kernel⟩
theorem ck_Telling_reach : chkSs cc N_Telling_reach (defScope s_Telling_reach) b_Telling_reach (defBody s_Telling_reach) = true := by decide +kernel
abbrev s_Telling_rule : Stmt := inClass (top 44) 1
abbrev N_Telling_rule : List Str := ["self", "place", "state", "some"]
abbrev P_Telling_rule : List Str := ["self", "place", "state"]
theorem sc_Telling_rule : FnScope N_Telling_rule P_Telling_rule (defScope s_Telling_rule) := ⟨rfl, rfl, rfl, by decide +kernel, rfl, by decide +kernel, by decide +kernel⟩
theorem ck_Telling_rule : chkSs cc N_Telling_rule (defScope s_Telling_rule) b_Telling_rule (defBody s_Telling_rule) = true := by decide +kernel
abbrev s_law_fits : Stmt := top 67
abbrev N_law_fits : List Str := ["_law_pattern_here", "_law_tree_here", "_law_k"]
abbrev P_law_fits : List Str := ["_law_pattern_here", "_law_tree_here"]
theorem sc_law_fits : FnScope N_law_fits P_law_fits (defScope s_law_fits) := ⟨rfl, rfl, rfl, by decide +kernel, rfl, by decide +kernel, by decide +kernel⟩
theorem ck_law_fits : chkSs cc N_law_fits (defScope s_law_fits) b_law_fits (defBody s_law_fits) = true := by decide +kernel
abbrev s_is_spot : Stmt := top 35
abbrev N_is_spot : List Str := ["spot"]
abbrev P_is_spot : List Str := ["spot"]
theorem sc_is_spot : FnScope N_is_spot P_is_spot (defScope s_is_spot) := ⟨rfl, rfl, rfl, by decide +kernel, rfl, by decide +kernel, by decide +kernel⟩
theorem ck_is_spot : chkSs cc N_is_spot (defScope s_is_spot) b_is_spot (defBody s_is_spot) = true := by decide +kernel
abbrev s_is_number : Stmt := top 31
abbrev N_is_number : List Str := ["part", "low", "high"]
abbrev P_is_number : List Str := ["part", "low", "high"]
theorem sc_is_number : FnScope N_is_number P_is_number (defScope s_is_number) := ⟨rfl, rfl, rfl, by decide +kernel, rfl, by decide +kernel, by decide +kernel⟩
theorem ck_is_number : chkSs cc N_is_number (defScope s_is_number) b_is_number (defBody s_is_number) = true := by decide +kernel
abbrev s_pattern_parts : Stmt := top 32
abbrev N_pattern_parts : List Str := ["pattern", "deep", "kid"]
abbrev P_pattern_parts : List Str := ["pattern", "deep"]
theorem sc_pattern_parts : FnScope N_pattern_parts P_pattern_parts (defScope s_pattern_parts) := ⟨rfl, rfl, rfl, by decide +kernel, rfl, by decide +kernel, by decide +kernel⟩
theorem ck_pattern_parts : chkSs cc N_pattern_parts (defScope s_pattern_parts) b_pattern_parts (defBody s_pattern_parts) = true := by decide +kernel
abbrev s_build_parts : Stmt := top 34
abbrev N_build_parts : List Str := ["build", "pattern", "deep", "good", "kid"]
abbrev P_build_parts : List Str := ["build", "pattern", "deep"]
theorem sc_build_parts : FnScope N_build_parts P_build_parts (defScope s_build_parts) := ⟨rfl, rfl, rfl, by decide +kernel, rfl, by decide +kernel, by decide +kernel⟩
theorem ck_build_parts : chkSs cc N_build_parts (defScope s_build_parts) b_build_parts (defBody s_build_parts) = true := by decide +kernel
abbrev s_is_label : Stmt := top 16
abbrev N_is_label : List Str := ["part"]
abbrev P_is_label : List Str := ["part"]
theorem sc_is_label : FnScope N_is_label P_is_label (defScope s_is_label) := ⟨rfl, rfl, rfl, by decide +kernel, rfl, by decide +kernel, by decide +kernel⟩
theorem ck_is_label : chkSs cc N_is_label (defScope s_is_label) b_is_label (defBody s_is_label) = true := by decide +kernel
abbrev s_dos_of : Stmt := top 41
abbrev N_dos_of : List Str := ["build", "found", "kid"]
abbrev P_dos_of : List Str := ["build"]
theorem sc_dos_of : FnScope N_dos_of P_dos_of (defScope s_dos_of) := ⟨rfl, rfl, rfl, by decide +kernel, rfl, by decide +kernel, by decide +kernel⟩
theorem ck_dos_of : chkSs cc N_dos_of (defScope s_dos_of) b_dos_of (defBody s_dos_of) = true := by decide +kernel
abbrev s_Telling_parts : Stmt := inClass (top 44) 3
abbrev N_Telling_parts : List Str := ["self", "build", "place", "kid"]
abbrev P_Telling_parts : List Str := ["self", "build", "place"]
theorem sc_Telling_parts : FnScope N_Telling_parts P_Telling_parts (defScope s_Telling_parts) := ⟨rfl, rfl, rfl, by decide +kernel, rfl, by decide +kernel, by decide +kernel⟩
theorem ck_Telling_parts : chkSs cc N_Telling_parts (defScope s_Telling_parts) b_Telling_parts (defBody s_Telling_parts) = true := by decide +kernel
abbrev s_Telling_built : Stmt := inClass (top 44) 4
abbrev N_Telling_built : List Str := ["self", "build", "place", "kid"]
abbrev P_Telling_built : List Str := ["self", "build", "place"]
theorem sc_Telling_built : FnScope N_Telling_built P_Telling_built (defScope s_Telling_built) := ⟨rfl, rfl, rfl, by decide +kernel, rfl, by decide +kernel, by decide +kernel⟩
theorem ck_Telling_built : chkSs cc N_Telling_built (defScope s_Telling_built) b_Telling_built (defBody s_Telling_built) = true := by decide +kernel
abbrev s_rules_at : Stmt := top 40
abbrev N_rules_at : List Str := ["book", "state", "place", "tree", "label", "found", "number", "rule"]
abbrev P_rules_at : List Str := ["book", "state", "place", "tree", "label"]
theorem sc_rules_at : FnScope N_rules_at P_rules_at (defScope s_rules_at) := ⟨rfl, rfl, rfl, by decide +kernel, rfl, by decide +kernel, by decide +kernel⟩
theorem ck_rules_at : chkSs cc N_rules_at (defScope s_rules_at) b_rules_at (defBody s_rules_at) = true := by decide +kernel
abbrev s_above : Stmt := top 20
abbrev N_above : List Str := ["tree", "place"]
abbrev P_above : List Str := ["tree", "place"]
theorem sc_above : FnScope N_above P_above (defScope s_above) := ⟨rfl, rfl, rfl, by decide +kernel, rfl, by decide +kernel, by decide +kernel⟩
theorem ck_above : chkSs cc N_above (defScope s_above) b_above (defBody s_above) = true := by decide +kernel
abbrev s_has_path : Stmt := top 33
abbrev N_has_path : List Str := ["pattern", "path", "k"]
abbrev P_has_path : List Str := ["pattern", "path"]
theorem sc_has_path : FnScope N_has_path P_has_path (defScope s_has_path) := ⟨rfl, rfl, rfl, by decide +kernel, rfl, by decide +kernel, by decide +kernel⟩
theorem ck_has_path : chkSs cc N_has_path (defScope s_has_path) b_has_path (defBody s_has_path) = true := by decide +kernel
abbrev s_fits : Stmt := top 38
abbrev N_fits : List Str := ["pattern", "tree", "k"]
abbrev P_fits : List Str := ["pattern", "tree"]
theorem sc_fits : FnScope N_fits P_fits (defScope s_fits) := ⟨rfl, rfl, rfl, by decide +kernel, rfl, by decide +kernel, by decide +kernel⟩
theorem ck_fits : chkSs cc N_fits (defScope s_fits) b_fits (defBody s_fits) = true := by decide +kernel
abbrev s_is_at : Stmt := top 39
abbrev N_is_at : List Str := ["spot", "place", "label"]
abbrev P_is_at : List Str := ["spot", "place", "label"]
theorem sc_is_at : FnScope N_is_at P_is_at (defScope s_is_at) := ⟨rfl, rfl, rfl, by decide +kernel, rfl, by decide +kernel, by decide +kernel⟩
theorem ck_is_at : chkSs cc N_is_at (defScope s_is_at) b_is_at (defBody s_is_at) = true := by decide +kernel
abbrev s_BadBookI : Stmt := inClass (top 3) 0
theorem sc_BadBookI : FnScope ["self", "number"] ["self", "number"] (defScope s_BadBookI) := ⟨rfl, rfl, rfl, by decide +kernel, rfl, by decide +kernel, by decide +kernel⟩
theorem ck_BadBookI : iniB "TellError" "number" "self" "number" (defBody s_BadBookI) = true := by decide +kernel
abbrev s_BadTreeI : Stmt := inClass (top 2) 0
theorem sc_BadTreeI : FnScope ["self", "place"] ["self", "place"] (defScope s_BadTreeI) := ⟨rfl, rfl, rfl, by decide +kernel, rfl, by decide +kernel, by decide +kernel⟩
theorem ck_BadTreeI : iniB "TellError" "place" "self" "place" (defBody s_BadTreeI) = true := by decide +kernel
abbrev sx_told : Stmt := top 55
theorem scx_told : FnScope (tN "_law_word") ["_law_work"] (defScope sx_told) := ⟨rfl, rfl, rfl, by decide +kernel, rfl, by decide +kernel, by decide +kernel⟩
theorem box_told : bodyB (defScope sx_told) "_law_word" (defBody sx_told) = true := by decide +kernel
theorem lox_told : ∀ x ∈ tN "_law_word", (defScope sx_told).names.lookup x = some .local ∧ (x == ("__debug__" : Str)) = false ∧ (x == ("__classdict__" : Str)) = false := by decide +kernel
theorem glx_told : (defScope sx_told).names.lookup ("isinstance" : Str) = some .globalImplicit ∧ (defScope sx_told).names.lookup ("ValueError" : Str) = some .globalImplicit ∧ (defScope sx_told).names.lookup ("TellError" : Str) = some .globalImplicit := by decide +kernel
theorem ndx_told : (tN "_law_word").Nodup := by decide +kernel
theorem all_mk {l : PySem.W.OpenLaw} {q : Program} {w : World} {K : PySem.W.Frag} {h : Heap} {mg : Str → Option Value} {fa tT0 cA0 f0 f1 f2 f3 f4 f5 f6 f7 f8 f9 f10 f11 f12 f13 f14 f15 f16 f17 f18 f19 f20 f21 f22 f23 f24 f25 f26 f27 f28 f29 f30 f31 f32 f33 f34 f35 f36 f37 f38 f39 f40 f41 f42 C0 Z_BadTree Z_BadBook Z_BadPlace Z_TooBig Z_TooMany Z_NotKeeping Z_BadState Z_BadPairs Z_BadText ZT fG fI_BadBook fI_BadTree : Addr} (X : K.In h) (G : h.Ns mainGlobals mg) (hfa : mg "law" = some (.ref fa)) (tabs : TabsOf q mg h) (hK : noTabB K = true) (hr0 : recB q "law" = true)
  {od0 an0 od1 an1 od2 an2 od3 an3 od4 an4 od5 an5 od6 an6 od7 an7 od8 an8 od9 an9 od10 an10 od11 an11 od12 an12 od13 an13 od14 an14 od15 an15 od16 an16 od17 an17 od18 an18 od19 an19 od20 an20 od21 an21 od22 an22 od23 an23 od24 an24 od25 an25 od26 an26 od27 an27 od28 an28 od29 an29 od30 an30 od31 an31 od32 an32 od33 an33 od34 an34 od35 an35 od36 an36 od37 an37 od38 an38 od39 an39 od40 an40 od41 an41 od42 an42 : Option Addr} {sl0 sl1 sl2 sl3 sl4 sl5 sl6 sl7 sl8 sl9 sl10 sl11 sl12 sl13 sl14 sl15 sl16 sl17 sl18 sl19 sl20 sl21 sl22 sl23 sl24 sl25 sl26 sl27 sl28 sl29 sl30 sl31 sl32 sl33 sl34 sl35 sl36 sl37 sl38 sl39 sl40 sl41 sl42 : Array (Option Value)} {oc0 kV0 dc0 pm0 cd0 ct0 oc1 kV1 dc1 pm1 cd1 ct1 oc2 kV2 dc2 pm2 cd2 ct2 oc3 kV3 dc3 pm3 cd3 ct3 oc4 kV4 dc4 pm4 cd4 ct4 oc5 kV5 dc5 pm5 cd5 ct5 oc6 kV6 dc6 pm6 cd6 ct6 oc7 kV7 dc7 pm7 cd7 ct7 oc8 kV8 dc8 pm8 cd8 ct8 oc9 kV9 dc9 pm9 cd9 ct9 oc10 kV10 dc10 pm10 cd10 ct10 oc11 kV11 dc11 pm11 cd11 ct11 oc12 kV12 dc12 pm12 cd12 ct12 oc13 kV13 dc13 pm13 cd13 ct13 oc14 kV14 dc14 pm14 cd14 ct14 oc15 kV15 dc15 pm15 cd15 ct15 oc16 kV16 dc16 pm16 cd16 ct16 oc17 kV17 dc17 pm17 cd17 ct17 oc18 kV18 dc18 pm18 cd18 ct18 oc19 kV19 dc19 pm19 cd19 ct19 oc20 kV20 dc20 pm20 cd20 ct20 oc21 kV21 dc21 pm21 cd21 ct21 oc22 kV22 dc22 pm22 cd22 ct22 oc23 kV23 dc23 pm23 cd23 ct23 oc24 kV24 dc24 pm24 cd24 ct24 oc25 kV25 dc25 pm25 cd25 ct25 oc26 kV26 dc26 pm26 cd26 ct26 oc27 kV27 dc27 pm27 cd27 ct27 oc28 kV28 dc28 pm28 cd28 ct28 oc29 kV29 dc29 pm29 cd29 ct29 oc30 kV30 dc30 pm30 cd30 ct30 oc31 kV31 dc31 pm31 cd31 ct31 oc32 kV32 dc32 pm32 cd32 ct32 oc33 kV33 dc33 pm33 cd33 ct33 oc34 kV34 dc34 pm34 cd34 ct34 oc35 kV35 dc35 pm35 cd35 ct35 oc36 kV36 dc36 pm36 cd36 ct36 oc37 kV37 dc37 pm37 cd37 ct37 oc38 kV38 dc38 pm38 cd38 ct38 oc39 kV39 dc39 pm39 cd39 ct39 oc40 kV40 dc40 pm40 cd40 ct40 oc41 kV41 dc41 pm41 cd41 ct41 oc42 kV42 dc42 pm42 cd42 ct42 : Value} {kD0 : Option Addr} {kO0 : Value} {kS0 : Array (Option Value)} {kW0 : Array Value} {t0 : Tok} {T0 : Addr} {d0 : Option Addr} {nn0 : Nat} {ss0 : Array (Option Value)} {t1 : Tok} {t2 : Tok} {t3 : Tok} {T3 : Addr} {d3 : Option Addr} {nn3 : Nat} {ss3 : Array (Option Value)} {t4 : Tok} {t5 : Tok} {t6 : Tok} {t7 : Tok} {t8 : Tok} {t9 : Tok} {t10 : Tok} {t11 : Tok} {t12 : Tok} {t13 : Tok} {nmZ0 qZ0 : Str} {NZ0 : Addr} {bsZ0 sbsZ0 : List Value} {snZ0 : List Str} {abZ0 : Bool} {colZ0 : Option Bool} {ddZ0 : Option Addr} {m0Z0 m1Z0 m2Z0 m3Z0 m5Z0 : Option Value} {odE0 anE0 : Option Addr} {slE0 : Array (Option Value)} {ocE0 kVE0 dcE0 pmE0 cdE0 ctE0 : Value} {nmZ1 qZ1 : Str} {NZ1 : Addr} {bsZ1 sbsZ1 : List Value} {snZ1 : List Str} {abZ1 : Bool} {colZ1 : Option Bool} {ddZ1 : Option Addr} {m0Z1 m1Z1 m2Z1 m3Z1 m5Z1 : Option Value} {odE1 anE1 : Option Addr} {slE1 : Array (Option Value)} {ocE1 kVE1 dcE1 pmE1 cdE1 ctE1 : Value} {odG anG : Option Addr} {slG : Array (Option Value)} {ocG kVG dcG pmG cdG ctG : Value}
  (aC0 : PySem.W.nsIn K mainGlobals "Telling" = some (some (.ref C0)))
  (pg0 : PySem.W.plainGet K C0 Str.empty = true)
  (hd0 : PySem.W.hasDictIn K C0 = true)
  (po0 : PySem.W.plainOver K C0 = true)
  (sa0 : PySem.W.findIn K (.ref C0) "__setattr__" = some (some (.builtin "object.__setattr__")))
  (mk0 : PySem.W.makesIn K C0 = true)
  (kc0 : PySem.W.keepIn K (.ref C0) = true)
  (n0_0 : PySem.W.findIn K (.ref C0) "known" = some none)
  (n0_1 : PySem.W.findIn K (.ref C0) "book" = some none)
  (n0_2 : PySem.W.findIn K (.ref C0) "tree" = some none)
  (n0_3 : PySem.W.findIn K (.ref C0) "sizes" = some none)
  (aZT : PySem.W.nsIn K mainGlobals "TellError" = some (some (.ref ZT)))
  (icZT : PySem.W.isClsIn K ZT = true)
  (tyZT : PySem.W.typeIn K (.ref ZT) = some (.type "type"))
  (bZT : PySem.W.subIn K (.ref ZT) (.type "BaseException") = some true)
  (hnZ : PySem.W.specialIn K (.builtin "object.__class__") "__get__" = some (some (.builtin "getset_descriptor.__get__")))
  (htZ : PySem.W.takesIn K (.builtin "object.__class__") = some true)
  (spZT : PySem.W.specialIn K (.ref ZT) "__getattribute__" = some (some (.builtin "type.__getattribute__")))
  (rdZT : PySem.W.readsIn K ZT (.type "type") = true)
  (fiZT : PySem.W.findCls K (.ref ZT) (.type "type") "__init__" = some (.val (.builtin "ValueError.__init__")))
  (aZ_BadTree : PySem.W.nsIn K mainGlobals "BadTree" = some (some (.ref Z_BadTree)))
  (icZ_BadTree : PySem.W.isClsIn K Z_BadTree = true)
  (tyZ_BadTree : PySem.W.typeIn K (.ref Z_BadTree) = some (.type "type"))
  (aZ_BadBook : PySem.W.nsIn K mainGlobals "BadBook" = some (some (.ref Z_BadBook)))
  (icZ_BadBook : PySem.W.isClsIn K Z_BadBook = true)
  (tyZ_BadBook : PySem.W.typeIn K (.ref Z_BadBook) = some (.type "type"))
  (aZ_BadPlace : PySem.W.nsIn K mainGlobals "BadPlace" = some (some (.ref Z_BadPlace)))
  (icZ_BadPlace : PySem.W.isClsIn K Z_BadPlace = true)
  (tyZ_BadPlace : PySem.W.typeIn K (.ref Z_BadPlace) = some (.type "type"))
  (aZ_TooBig : PySem.W.nsIn K mainGlobals "TooBig" = some (some (.ref Z_TooBig)))
  (icZ_TooBig : PySem.W.isClsIn K Z_TooBig = true)
  (tyZ_TooBig : PySem.W.typeIn K (.ref Z_TooBig) = some (.type "type"))
  (aZ_TooMany : PySem.W.nsIn K mainGlobals "TooMany" = some (some (.ref Z_TooMany)))
  (icZ_TooMany : PySem.W.isClsIn K Z_TooMany = true)
  (tyZ_TooMany : PySem.W.typeIn K (.ref Z_TooMany) = some (.type "type"))
  (aZ_NotKeeping : PySem.W.nsIn K mainGlobals "NotKeeping" = some (some (.ref Z_NotKeeping)))
  (icZ_NotKeeping : PySem.W.isClsIn K Z_NotKeeping = true)
  (tyZ_NotKeeping : PySem.W.typeIn K (.ref Z_NotKeeping) = some (.type "type"))
  (aZ_BadState : PySem.W.nsIn K mainGlobals "BadState" = some (some (.ref Z_BadState)))
  (icZ_BadState : PySem.W.isClsIn K Z_BadState = true)
  (tyZ_BadState : PySem.W.typeIn K (.ref Z_BadState) = some (.type "type"))
  (aZ_BadPairs : PySem.W.nsIn K mainGlobals "BadPairs" = some (some (.ref Z_BadPairs)))
  (icZ_BadPairs : PySem.W.isClsIn K Z_BadPairs = true)
  (tyZ_BadPairs : PySem.W.typeIn K (.ref Z_BadPairs) = some (.type "type"))
  (aZ_BadText : PySem.W.nsIn K mainGlobals "BadText" = some (some (.ref Z_BadText)))
  (icZ_BadText : PySem.W.isClsIn K Z_BadText = true)
  (tyZ_BadText : PySem.W.typeIn K (.ref Z_BadText) = some (.type "type"))
  (gaZ_BadBook : PySem.W.findIn K (.ref Z_BadBook) "__getattribute__" = some (some (.builtin "BaseException.__getattribute__")))
  (ggZ_BadBook : PySem.W.findIn K (.ref Z_BadBook) "__getattr__" = some none)
  (sbZ_BadBook : PySem.W.subIn K (.ref Z_BadBook) (.type "BaseException") = some true)
  (hdZ_BadBook : PySem.W.hasDictIn K Z_BadBook = true)
  (clZ_BadBook : PySem.W.findIn K (.ref Z_BadBook) "__class__" = some (some (.builtin "object.__class__")))
  (moZ_BadBook : PySem.W.mroIn K Z_BadBook (.type "object") = some true)
  (npZ_BadBook : PySem.W.findIn K (.ref Z_BadBook) "place" = some none)
  (nnZ_BadBook : PySem.W.findIn K (.ref Z_BadBook) "number" = some none)
  (svZ_BadBook : PySem.W.subIn K (.ref Z_BadBook) (.type "ValueError") = some true)
  (stZ_BadBook : PySem.W.subIn K (.ref Z_BadBook) (.ref ZT) = some true)
  (kpZ_BadBook : PySem.W.keepIn K (.ref Z_BadBook) = true)
  (neZ_BadBook_BadTree : (Z_BadBook == Z_BadTree) = false)
  (suZ_BadBook_BadTree : PySem.W.subIn K (.ref Z_BadBook) (.ref Z_BadTree) = some false)
  (neZ_BadBook_BadPlace : (Z_BadBook == Z_BadPlace) = false)
  (suZ_BadBook_BadPlace : PySem.W.subIn K (.ref Z_BadBook) (.ref Z_BadPlace) = some false)
  (neZ_BadBook_TooBig : (Z_BadBook == Z_TooBig) = false)
  (suZ_BadBook_TooBig : PySem.W.subIn K (.ref Z_BadBook) (.ref Z_TooBig) = some false)
  (neZ_BadBook_TooMany : (Z_BadBook == Z_TooMany) = false)
  (suZ_BadBook_TooMany : PySem.W.subIn K (.ref Z_BadBook) (.ref Z_TooMany) = some false)
  (neZ_BadBook_NotKeeping : (Z_BadBook == Z_NotKeeping) = false)
  (suZ_BadBook_NotKeeping : PySem.W.subIn K (.ref Z_BadBook) (.ref Z_NotKeeping) = some false)
  (neZ_BadBook_BadState : (Z_BadBook == Z_BadState) = false)
  (suZ_BadBook_BadState : PySem.W.subIn K (.ref Z_BadBook) (.ref Z_BadState) = some false)
  (neZ_BadBook_BadPairs : (Z_BadBook == Z_BadPairs) = false)
  (suZ_BadBook_BadPairs : PySem.W.subIn K (.ref Z_BadBook) (.ref Z_BadPairs) = some false)
  (neZ_BadBook_BadText : (Z_BadBook == Z_BadText) = false)
  (suZ_BadBook_BadText : PySem.W.subIn K (.ref Z_BadBook) (.ref Z_BadText) = some false)
  (gaZ_BadTree : PySem.W.findIn K (.ref Z_BadTree) "__getattribute__" = some (some (.builtin "BaseException.__getattribute__")))
  (ggZ_BadTree : PySem.W.findIn K (.ref Z_BadTree) "__getattr__" = some none)
  (sbZ_BadTree : PySem.W.subIn K (.ref Z_BadTree) (.type "BaseException") = some true)
  (hdZ_BadTree : PySem.W.hasDictIn K Z_BadTree = true)
  (clZ_BadTree : PySem.W.findIn K (.ref Z_BadTree) "__class__" = some (some (.builtin "object.__class__")))
  (moZ_BadTree : PySem.W.mroIn K Z_BadTree (.type "object") = some true)
  (npZ_BadTree : PySem.W.findIn K (.ref Z_BadTree) "place" = some none)
  (nnZ_BadTree : PySem.W.findIn K (.ref Z_BadTree) "number" = some none)
  (svZ_BadTree : PySem.W.subIn K (.ref Z_BadTree) (.type "ValueError") = some true)
  (stZ_BadTree : PySem.W.subIn K (.ref Z_BadTree) (.ref ZT) = some true)
  (kpZ_BadTree : PySem.W.keepIn K (.ref Z_BadTree) = true)
  (neZ_BadTree_BadBook : (Z_BadTree == Z_BadBook) = false)
  (suZ_BadTree_BadBook : PySem.W.subIn K (.ref Z_BadTree) (.ref Z_BadBook) = some false)
  (neZ_BadTree_BadPlace : (Z_BadTree == Z_BadPlace) = false)
  (suZ_BadTree_BadPlace : PySem.W.subIn K (.ref Z_BadTree) (.ref Z_BadPlace) = some false)
  (neZ_BadTree_TooBig : (Z_BadTree == Z_TooBig) = false)
  (suZ_BadTree_TooBig : PySem.W.subIn K (.ref Z_BadTree) (.ref Z_TooBig) = some false)
  (neZ_BadTree_TooMany : (Z_BadTree == Z_TooMany) = false)
  (suZ_BadTree_TooMany : PySem.W.subIn K (.ref Z_BadTree) (.ref Z_TooMany) = some false)
  (neZ_BadTree_NotKeeping : (Z_BadTree == Z_NotKeeping) = false)
  (suZ_BadTree_NotKeeping : PySem.W.subIn K (.ref Z_BadTree) (.ref Z_NotKeeping) = some false)
  (neZ_BadTree_BadState : (Z_BadTree == Z_BadState) = false)
  (suZ_BadTree_BadState : PySem.W.subIn K (.ref Z_BadTree) (.ref Z_BadState) = some false)
  (neZ_BadTree_BadPairs : (Z_BadTree == Z_BadPairs) = false)
  (suZ_BadTree_BadPairs : PySem.W.subIn K (.ref Z_BadTree) (.ref Z_BadPairs) = some false)
  (neZ_BadTree_BadText : (Z_BadTree == Z_BadText) = false)
  (suZ_BadTree_BadText : PySem.W.subIn K (.ref Z_BadTree) (.ref Z_BadText) = some false)
  (gaZ_BadPlace : PySem.W.findIn K (.ref Z_BadPlace) "__getattribute__" = some (some (.builtin "BaseException.__getattribute__")))
  (ggZ_BadPlace : PySem.W.findIn K (.ref Z_BadPlace) "__getattr__" = some none)
  (sbZ_BadPlace : PySem.W.subIn K (.ref Z_BadPlace) (.type "BaseException") = some true)
  (hdZ_BadPlace : PySem.W.hasDictIn K Z_BadPlace = true)
  (clZ_BadPlace : PySem.W.findIn K (.ref Z_BadPlace) "__class__" = some (some (.builtin "object.__class__")))
  (moZ_BadPlace : PySem.W.mroIn K Z_BadPlace (.type "object") = some true)
  (npZ_BadPlace : PySem.W.findIn K (.ref Z_BadPlace) "place" = some none)
  (nnZ_BadPlace : PySem.W.findIn K (.ref Z_BadPlace) "number" = some none)
  (svZ_BadPlace : PySem.W.subIn K (.ref Z_BadPlace) (.type "ValueError") = some true)
  (stZ_BadPlace : PySem.W.subIn K (.ref Z_BadPlace) (.ref ZT) = some true)
  (kpZ_BadPlace : PySem.W.keepIn K (.ref Z_BadPlace) = true)
  (neZ_BadPlace_BadTree : (Z_BadPlace == Z_BadTree) = false)
  (suZ_BadPlace_BadTree : PySem.W.subIn K (.ref Z_BadPlace) (.ref Z_BadTree) = some false)
  (neZ_BadPlace_BadBook : (Z_BadPlace == Z_BadBook) = false)
  (suZ_BadPlace_BadBook : PySem.W.subIn K (.ref Z_BadPlace) (.ref Z_BadBook) = some false)
  (neZ_BadPlace_TooBig : (Z_BadPlace == Z_TooBig) = false)
  (suZ_BadPlace_TooBig : PySem.W.subIn K (.ref Z_BadPlace) (.ref Z_TooBig) = some false)
  (neZ_BadPlace_TooMany : (Z_BadPlace == Z_TooMany) = false)
  (suZ_BadPlace_TooMany : PySem.W.subIn K (.ref Z_BadPlace) (.ref Z_TooMany) = some false)
  (neZ_BadPlace_NotKeeping : (Z_BadPlace == Z_NotKeeping) = false)
  (suZ_BadPlace_NotKeeping : PySem.W.subIn K (.ref Z_BadPlace) (.ref Z_NotKeeping) = some false)
  (neZ_BadPlace_BadState : (Z_BadPlace == Z_BadState) = false)
  (suZ_BadPlace_BadState : PySem.W.subIn K (.ref Z_BadPlace) (.ref Z_BadState) = some false)
  (neZ_BadPlace_BadPairs : (Z_BadPlace == Z_BadPairs) = false)
  (suZ_BadPlace_BadPairs : PySem.W.subIn K (.ref Z_BadPlace) (.ref Z_BadPairs) = some false)
  (neZ_BadPlace_BadText : (Z_BadPlace == Z_BadText) = false)
  (suZ_BadPlace_BadText : PySem.W.subIn K (.ref Z_BadPlace) (.ref Z_BadText) = some false)
  (gaZ_TooBig : PySem.W.findIn K (.ref Z_TooBig) "__getattribute__" = some (some (.builtin "BaseException.__getattribute__")))
  (ggZ_TooBig : PySem.W.findIn K (.ref Z_TooBig) "__getattr__" = some none)
  (sbZ_TooBig : PySem.W.subIn K (.ref Z_TooBig) (.type "BaseException") = some true)
  (hdZ_TooBig : PySem.W.hasDictIn K Z_TooBig = true)
  (clZ_TooBig : PySem.W.findIn K (.ref Z_TooBig) "__class__" = some (some (.builtin "object.__class__")))
  (moZ_TooBig : PySem.W.mroIn K Z_TooBig (.type "object") = some true)
  (npZ_TooBig : PySem.W.findIn K (.ref Z_TooBig) "place" = some none)
  (nnZ_TooBig : PySem.W.findIn K (.ref Z_TooBig) "number" = some none)
  (svZ_TooBig : PySem.W.subIn K (.ref Z_TooBig) (.type "ValueError") = some true)
  (stZ_TooBig : PySem.W.subIn K (.ref Z_TooBig) (.ref ZT) = some true)
  (kpZ_TooBig : PySem.W.keepIn K (.ref Z_TooBig) = true)
  (neZ_TooBig_BadTree : (Z_TooBig == Z_BadTree) = false)
  (suZ_TooBig_BadTree : PySem.W.subIn K (.ref Z_TooBig) (.ref Z_BadTree) = some false)
  (neZ_TooBig_BadBook : (Z_TooBig == Z_BadBook) = false)
  (suZ_TooBig_BadBook : PySem.W.subIn K (.ref Z_TooBig) (.ref Z_BadBook) = some false)
  (neZ_TooBig_BadPlace : (Z_TooBig == Z_BadPlace) = false)
  (suZ_TooBig_BadPlace : PySem.W.subIn K (.ref Z_TooBig) (.ref Z_BadPlace) = some false)
  (neZ_TooBig_TooMany : (Z_TooBig == Z_TooMany) = false)
  (suZ_TooBig_TooMany : PySem.W.subIn K (.ref Z_TooBig) (.ref Z_TooMany) = some false)
  (neZ_TooBig_NotKeeping : (Z_TooBig == Z_NotKeeping) = false)
  (suZ_TooBig_NotKeeping : PySem.W.subIn K (.ref Z_TooBig) (.ref Z_NotKeeping) = some false)
  (neZ_TooBig_BadState : (Z_TooBig == Z_BadState) = false)
  (suZ_TooBig_BadState : PySem.W.subIn K (.ref Z_TooBig) (.ref Z_BadState) = some false)
  (neZ_TooBig_BadPairs : (Z_TooBig == Z_BadPairs) = false)
  (suZ_TooBig_BadPairs : PySem.W.subIn K (.ref Z_TooBig) (.ref Z_BadPairs) = some false)
  (neZ_TooBig_BadText : (Z_TooBig == Z_BadText) = false)
  (suZ_TooBig_BadText : PySem.W.subIn K (.ref Z_TooBig) (.ref Z_BadText) = some false)
  (xPZ_BadPlace : PySem.W.excIn K Z_BadPlace [.type "ValueError", .type "Exception", .type "BaseException", .type "object"] "ValueError.__new__" = true)
  (xPZ_TooBig : PySem.W.excIn K Z_TooBig [.type "ValueError", .type "Exception", .type "BaseException", .type "object"] "ValueError.__new__" = true)
  (xLZ_BadBook : K.lookup Z_BadBook = some (excClassObj nmZ0 qZ0 Z_BadBook NZ0 bsZ0 [.ref ZT, .type "ValueError", .type "Exception", .type "BaseException", .type "object"] true snZ0 sbsZ0 abZ0 colZ0 ddZ0 m0Z0 m1Z0 m2Z0 m3Z0 m5Z0 "ValueError.__new__"))
  (saZ_BadBook : PySem.W.findIn K (.ref Z_BadBook) "__setattr__" = some (some (.builtin "object.__setattr__")))
  (aIZ_BadBook : PySem.W.findIn K (.ref Z_BadBook) "__init__" = some (some (.ref fI_BadBook)))
  (tIZ_BadBook : PySem.W.typeIn K (.ref fI_BadBook) = some (.type "function"))
  (lIZ_BadBook : K.lookup fI_BadBook = some ⟨ocE0, odE0, .func (PySem.W.fnOf "__init__" "BadBook.__init__" (defArgs s_BadBookI) (defBody s_BadBookI) (defScope s_BadBookI) .none kVE0 dcE0 pmE0 anE0 cdE0 ctE0), slE0⟩)
  (cIZ_BadBook : PySem.W.codeIn K cdE0 "BadBook.__init__" = true)
  (kIZ_BadBook : PySem.W.keepIn K (.ref fI_BadBook) = true)
  (xLZ_BadTree : K.lookup Z_BadTree = some (excClassObj nmZ1 qZ1 Z_BadTree NZ1 bsZ1 [.ref ZT, .type "ValueError", .type "Exception", .type "BaseException", .type "object"] true snZ1 sbsZ1 abZ1 colZ1 ddZ1 m0Z1 m1Z1 m2Z1 m3Z1 m5Z1 "ValueError.__new__"))
  (saZ_BadTree : PySem.W.findIn K (.ref Z_BadTree) "__setattr__" = some (some (.builtin "object.__setattr__")))
  (aIZ_BadTree : PySem.W.findIn K (.ref Z_BadTree) "__init__" = some (some (.ref fI_BadTree)))
  (tIZ_BadTree : PySem.W.typeIn K (.ref fI_BadTree) = some (.type "function"))
  (lIZ_BadTree : K.lookup fI_BadTree = some ⟨ocE1, odE1, .func (PySem.W.fnOf "__init__" "BadTree.__init__" (defArgs s_BadTreeI) (defBody s_BadTreeI) (defScope s_BadTreeI) .none kVE1 dcE1 pmE1 anE1 cdE1 ctE1), slE1⟩)
  (cIZ_BadTree : PySem.W.codeIn K cdE1 "BadTree.__init__" = true)
  (kIZ_BadTree : PySem.W.keepIn K (.ref fI_BadTree) = true)
  (aG : PySem.W.nsIn K mainGlobals "_law_told" = some (some (.ref fG)))
  (lG : K.lookup fG = some ⟨ocG, odG, .func (PySem.W.fnOf "_law_told" "_law_told" (defArgs sx_told) (defBody sx_told) (defScope sx_told) .none kVG dcG pmG anG cdG ctG), slG⟩)
  (cG : PySem.W.codeIn K cdG "_law_told" = true)
  (kG : PySem.W.keepIn K (.ref fG) = true)
  (zisi : PySem.W.nsIn K mainGlobals "isinstance" = some none)
  (zval : PySem.W.nsIn K mainGlobals "ValueError" = some none)
  (a0 : PySem.W.nsIn K mainGlobals "law" = some (some (.ref f0)))
  (l0 : K.lookup f0 = some ⟨oc0, od0, .func (PySem.W.fnOf "law" "law" (defArgs s_law) (defBody s_law) (defScope s_law) .none kV0 dc0 pm0 an0 cd0 ct0), sl0⟩)
  (c0 : PySem.W.codeIn K cd0 "law" = true)
  (k0 : PySem.W.keepIn K (.ref f0) = true)
  (a1 : PySem.W.nsIn K mainGlobals "_law_begun" = some (some (.ref f1)))
  (l1 : K.lookup f1 = some ⟨oc1, od1, .func (PySem.W.fnOf "_law_begun" "_law_begun" (defArgs s_law_begun) (defBody s_law_begun) (defScope s_law_begun) .none kV1 dc1 pm1 an1 cd1 ct1), sl1⟩)
  (c1 : PySem.W.codeIn K cd1 "_law_begun" = true)
  (k1 : PySem.W.keepIn K (.ref f1) = true)
  (a2 : PySem.W.nsIn K mainGlobals "_law_letters" = some (some (.ref f2)))
  (l2 : K.lookup f2 = some ⟨oc2, od2, .func (PySem.W.fnOf "_law_letters" "_law_letters" (defArgs s_law_letters) (defBody s_law_letters) (defScope s_law_letters) .none kV2 dc2 pm2 an2 cd2 ct2), sl2⟩)
  (c2 : PySem.W.codeIn K cd2 "_law_letters" = true)
  (k2 : PySem.W.keepIn K (.ref f2) = true)
  (a3 : PySem.W.nsIn K mainGlobals "_law_book" = some (some (.ref f3)))
  (l3 : K.lookup f3 = some ⟨oc3, od3, .func (PySem.W.fnOf "_law_book" "_law_book" (defArgs s_law_book) (defBody s_law_book) (defScope s_law_book) .none kV3 dc3 pm3 an3 cd3 ct3), sl3⟩)
  (c3 : PySem.W.codeIn K cd3 "_law_book" = true)
  (k3 : PySem.W.keepIn K (.ref f3) = true)
  (a4 : PySem.W.nsIn K mainGlobals "_law_tree" = some (some (.ref f4)))
  (l4 : K.lookup f4 = some ⟨oc4, od4, .func (PySem.W.fnOf "_law_tree" "_law_tree" (defArgs s_law_tree) (defBody s_law_tree) (defScope s_law_tree) .none kV4 dc4 pm4 an4 cd4 ct4), sl4⟩)
  (c4 : PySem.W.codeIn K cd4 "_law_tree" = true)
  (k4 : PySem.W.keepIn K (.ref f4) = true)
  (a5 : PySem.W.nsIn K mainGlobals "told" = some (some (.ref f5)))
  (l5 : K.lookup f5 = some ⟨oc5, od5, .func (PySem.W.fnOf "told" "told" (defArgs s_told) (defBody s_told) (defScope s_told) .none kV5 dc5 pm5 an5 cd5 ct5), sl5⟩)
  (c5 : PySem.W.codeIn K cd5 "told" = true)
  (k5 : PySem.W.keepIn K (.ref f5) = true)
  (a6 : PySem.W.nsIn K mainGlobals "origins" = some (some (.ref f6)))
  (l6 : K.lookup f6 = some ⟨oc6, od6, .func (PySem.W.fnOf "origins" "origins" (defArgs s_origins) (defBody s_origins) (defScope s_origins) .none kV6 dc6 pm6 an6 cd6 ct6), sl6⟩)
  (c6 : PySem.W.codeIn K cd6 "origins" = true)
  (k6 : PySem.W.keepIn K (.ref f6) = true)
  (a7 : PySem.W.nsIn K mainGlobals "_law_right" = some (some (.ref f7)))
  (l7 : K.lookup f7 = some ⟨oc7, od7, .func (PySem.W.fnOf "_law_right" "_law_right" (defArgs s_law_right) (defBody s_law_right) (defScope s_law_right) .none kV7 dc7 pm7 an7 cd7 ct7), sl7⟩)
  (c7 : PySem.W.codeIn K cd7 "_law_right" = true)
  (k7 : PySem.W.keepIn K (.ref f7) = true)
  (a8 : PySem.W.nsIn K mainGlobals "_law_places" = some (some (.ref f8)))
  (l8 : K.lookup f8 = some ⟨oc8, od8, .func (PySem.W.fnOf "_law_places" "_law_places" (defArgs s_law_places) (defBody s_law_places) (defScope s_law_places) .none kV8 dc8 pm8 an8 cd8 ct8), sl8⟩)
  (c8 : PySem.W.codeIn K cd8 "_law_places" = true)
  (k8 : PySem.W.keepIn K (.ref f8) = true)
  (a9 : PySem.W.nsIn K mainGlobals "comes_of" = some (some (.ref f9)))
  (l9 : K.lookup f9 = some ⟨oc9, od9, .func (PySem.W.fnOf "comes_of" "comes_of" (defArgs s_comes_of) (defBody s_comes_of) (defScope s_comes_of) .none kV9 dc9 pm9 an9 cd9 ct9), sl9⟩)
  (c9 : PySem.W.codeIn K cd9 "comes_of" = true)
  (k9 : PySem.W.keepIn K (.ref f9) = true)
  (a10 : PySem.W.nsIn K mainGlobals "_law_take" = some (some (.ref f10)))
  (l10 : K.lookup f10 = some ⟨oc10, od10, .func (PySem.W.fnOf "_law_take" "_law_take" (defArgs s_law_take) (defBody s_law_take) (defScope s_law_take) .none kV10 dc10 pm10 an10 cd10 ct10), sl10⟩)
  (c10 : PySem.W.codeIn K cd10 "_law_take" = true)
  (k10 : PySem.W.keepIn K (.ref f10) = true)
  (a11 : PySem.W.nsIn K mainGlobals "_law_rule" = some (some (.ref f11)))
  (l11 : K.lookup f11 = some ⟨oc11, od11, .func (PySem.W.fnOf "_law_rule" "_law_rule" (defArgs s_law_rule) (defBody s_law_rule) (defScope s_law_rule) .none kV11 dc11 pm11 an11 cd11 ct11), sl11⟩)
  (c11 : PySem.W.codeIn K cd11 "_law_rule" = true)
  (k11 : PySem.W.keepIn K (.ref f11) = true)
  (a12 : PySem.W.nsIn K mainGlobals "_law_grown" = some (some (.ref f12)))
  (l12 : K.lookup f12 = some ⟨oc12, od12, .func (PySem.W.fnOf "_law_grown" "_law_grown" (defArgs s_law_grown) (defBody s_law_grown) (defScope s_law_grown) .none kV12 dc12 pm12 an12 cd12 ct12), sl12⟩)
  (c12 : PySem.W.codeIn K cd12 "_law_grown" = true)
  (k12 : PySem.W.keepIn K (.ref f12) = true)
  (a13 : PySem.W.nsIn K mainGlobals "need_book" = some (some (.ref f13)))
  (l13 : K.lookup f13 = some ⟨oc13, od13, .func (PySem.W.fnOf "need_book" "need_book" (defArgs s_need_book) (defBody s_need_book) (defScope s_need_book) .none kV13 dc13 pm13 an13 cd13 ct13), sl13⟩)
  (c13 : PySem.W.codeIn K cd13 "need_book" = true)
  (k13 : PySem.W.keepIn K (.ref f13) = true)
  (a14 : PySem.W.nsIn K mainGlobals "need_tree" = some (some (.ref f14)))
  (l14 : K.lookup f14 = some ⟨oc14, od14, .func (PySem.W.fnOf "need_tree" "need_tree" (defArgs s_need_tree) (defBody s_need_tree) (defScope s_need_tree) .none kV14 dc14 pm14 an14 cd14 ct14), sl14⟩)
  (c14 : PySem.W.codeIn K cd14 "need_tree" = true)
  (k14 : PySem.W.keepIn K (.ref f14) = true)
  (a15 : PySem.W.nsIn K mainGlobals "told_by" = some (some (.ref f15)))
  (l15 : K.lookup f15 = some ⟨oc15, od15, .func (PySem.W.fnOf "told_by" "told_by" (defArgs s_told_by) (defBody s_told_by) (defScope s_told_by) .none kV15 dc15 pm15 an15 cd15 ct15), sl15⟩)
  (c15 : PySem.W.codeIn K cd15 "told_by" = true)
  (k15 : PySem.W.keepIn K (.ref f15) = true)
  (a16 : PySem.W.nsIn K mainGlobals "origins_at" = some (some (.ref f16)))
  (l16 : K.lookup f16 = some ⟨oc16, od16, .func (PySem.W.fnOf "origins_at" "origins_at" (defArgs s_origins_at) (defBody s_origins_at) (defScope s_origins_at) .none kV16 dc16 pm16 an16 cd16 ct16), sl16⟩)
  (c16 : PySem.W.codeIn K cd16 "origins_at" = true)
  (k16 : PySem.W.keepIn K (.ref f16) = true)
  (a17 : PySem.W.nsIn K mainGlobals "_law_labels" = some (some (.ref f17)))
  (l17 : K.lookup f17 = some ⟨oc17, od17, .func (PySem.W.fnOf "_law_labels" "_law_labels" (defArgs s_law_labels) (defBody s_law_labels) (defScope s_law_labels) .none kV17 dc17 pm17 an17 cd17 ct17), sl17⟩)
  (c17 : PySem.W.codeIn K cd17 "_law_labels" = true)
  (k17 : PySem.W.keepIn K (.ref f17) = true)
  (a18 : PySem.W.nsIn K mainGlobals "_law_fitting" = some (some (.ref f18)))
  (l18 : K.lookup f18 = some ⟨oc18, od18, .func (PySem.W.fnOf "_law_fitting" "_law_fitting" (defArgs s_law_fitting) (defBody s_law_fitting) (defScope s_law_fitting) .none kV18 dc18 pm18 an18 cd18 ct18), sl18⟩)
  (c18 : PySem.W.codeIn K cd18 "_law_fitting" = true)
  (k18 : PySem.W.keepIn K (.ref f18) = true)
  (a19 : PySem.W.nsIn K mainGlobals "at_place" = some (some (.ref f19)))
  (l19 : K.lookup f19 = some ⟨oc19, od19, .func (PySem.W.fnOf "at_place" "at_place" (defArgs s_at_place) (defBody s_at_place) (defScope s_at_place) .none kV19 dc19 pm19 an19 cd19 ct19), sl19⟩)
  (c19 : PySem.W.codeIn K cd19 "at_place" = true)
  (k19 : PySem.W.keepIn K (.ref f19) = true)
  (a20 : PySem.W.nsIn K mainGlobals "_law_pattern" = some (some (.ref f20)))
  (l20 : K.lookup f20 = some ⟨oc20, od20, .func (PySem.W.fnOf "_law_pattern" "_law_pattern" (defArgs s_law_pattern) (defBody s_law_pattern) (defScope s_law_pattern) .none kV20 dc20 pm20 an20 cd20 ct20), sl20⟩)
  (c20 : PySem.W.codeIn K cd20 "_law_pattern" = true)
  (k20 : PySem.W.keepIn K (.ref f20) = true)
  (a21 : PySem.W.nsIn K mainGlobals "_law_parts" = some (some (.ref f21)))
  (l21 : K.lookup f21 = some ⟨oc21, od21, .func (PySem.W.fnOf "_law_parts" "_law_parts" (defArgs s_law_parts) (defBody s_law_parts) (defScope s_law_parts) .none kV21 dc21 pm21 an21 cd21 ct21), sl21⟩)
  (c21 : PySem.W.codeIn K cd21 "_law_parts" = true)
  (k21 : PySem.W.keepIn K (.ref f21) = true)
  (a22 : PySem.W.nsIn K mainGlobals "_law_paths" = some (some (.ref f22)))
  (l22 : K.lookup f22 = some ⟨oc22, od22, .func (PySem.W.fnOf "_law_paths" "_law_paths" (defArgs s_law_paths) (defBody s_law_paths) (defScope s_law_paths) .none kV22 dc22 pm22 an22 cd22 ct22), sl22⟩)
  (c22 : PySem.W.codeIn K cd22 "_law_paths" = true)
  (k22 : PySem.W.keepIn K (.ref f22) = true)
  (a23 : PySem.W.nsIn K mainGlobals "_law_build" = some (some (.ref f23)))
  (l23 : K.lookup f23 = some ⟨oc23, od23, .func (PySem.W.fnOf "_law_build" "_law_build" (defArgs s_law_build) (defBody s_law_build) (defScope s_law_build) .none kV23 dc23 pm23 an23 cd23 ct23), sl23⟩)
  (c23 : PySem.W.codeIn K cd23 "_law_build" = true)
  (k23 : PySem.W.keepIn K (.ref f23) = true)
  (a24 : PySem.W.nsIn K mainGlobals "is_rule" = some (some (.ref f24)))
  (l24 : K.lookup f24 = some ⟨oc24, od24, .func (PySem.W.fnOf "is_rule" "is_rule" (defArgs s_is_rule) (defBody s_is_rule) (defScope s_is_rule) .none kV24 dc24 pm24 an24 cd24 ct24), sl24⟩)
  (c24 : PySem.W.codeIn K cd24 "is_rule" = true)
  (k24 : PySem.W.keepIn K (.ref f24) = true)
  (a25 : PySem.W.nsIn K mainGlobals "is_node" = some (some (.ref f25)))
  (l25 : K.lookup f25 = some ⟨oc25, od25, .func (PySem.W.fnOf "is_node" "is_node" (defArgs s_is_node) (defBody s_is_node) (defScope s_is_node) .none kV25 dc25 pm25 an25 cd25 ct25), sl25⟩)
  (c25 : PySem.W.codeIn K cd25 "is_node" = true)
  (k25 : PySem.W.keepIn K (.ref f25) = true)
  (a26 : PySem.W.findIn K (.ref C0) "__init__" = some (some (.ref f26)))
  (i26 : PySem.W.isFn K (.ref f26) = true)
  (l26 : K.lookup f26 = some ⟨oc26, od26, .func (PySem.W.fnOf "__init__" "Telling.__init__" (defArgs s_Telling_init) (defBody s_Telling_init) (defScope s_Telling_init) .none kV26 dc26 pm26 an26 cd26 ct26), sl26⟩)
  (c26 : PySem.W.codeIn K cd26 "Telling.__init__" = true)
  (k26 : PySem.W.keepIn K (.ref f26) = true)
  (a27 : PySem.W.findIn K (.ref C0) "reach" = some (some (.ref f27)))
  (i27 : PySem.W.isFn K (.ref f27) = true)
  (l27 : K.lookup f27 = some ⟨oc27, od27, .func (PySem.W.fnOf "reach" "Telling.reach" (defArgs s_Telling_reach) (defBody s_Telling_reach) (defScope s_Telling_reach) .none kV27 dc27 pm27 an27 cd27 ct27), sl27⟩)
  (c27 : PySem.W.codeIn K cd27 "Telling.reach" = true)
  (k27 : PySem.W.keepIn K (.ref f27) = true)
  (a28 : PySem.W.findIn K (.ref C0) "rule" = some (some (.ref f28)))
  (i28 : PySem.W.isFn K (.ref f28) = true)
  (l28 : K.lookup f28 = some ⟨oc28, od28, .func (PySem.W.fnOf "rule" "Telling.rule" (defArgs s_Telling_rule) (defBody s_Telling_rule) (defScope s_Telling_rule) .none kV28 dc28 pm28 an28 cd28 ct28), sl28⟩)
  (c28 : PySem.W.codeIn K cd28 "Telling.rule" = true)
  (k28 : PySem.W.keepIn K (.ref f28) = true)
  (a29 : PySem.W.nsIn K mainGlobals "_law_fits" = some (some (.ref f29)))
  (l29 : K.lookup f29 = some ⟨oc29, od29, .func (PySem.W.fnOf "_law_fits" "_law_fits" (defArgs s_law_fits) (defBody s_law_fits) (defScope s_law_fits) .none kV29 dc29 pm29 an29 cd29 ct29), sl29⟩)
  (c29 : PySem.W.codeIn K cd29 "_law_fits" = true)
  (k29 : PySem.W.keepIn K (.ref f29) = true)
  (a30 : PySem.W.nsIn K mainGlobals "is_spot" = some (some (.ref f30)))
  (l30 : K.lookup f30 = some ⟨oc30, od30, .func (PySem.W.fnOf "is_spot" "is_spot" (defArgs s_is_spot) (defBody s_is_spot) (defScope s_is_spot) .none kV30 dc30 pm30 an30 cd30 ct30), sl30⟩)
  (c30 : PySem.W.codeIn K cd30 "is_spot" = true)
  (k30 : PySem.W.keepIn K (.ref f30) = true)
  (a31 : PySem.W.nsIn K mainGlobals "is_number" = some (some (.ref f31)))
  (l31 : K.lookup f31 = some ⟨oc31, od31, .func (PySem.W.fnOf "is_number" "is_number" (defArgs s_is_number) (defBody s_is_number) (defScope s_is_number) .none kV31 dc31 pm31 an31 cd31 ct31), sl31⟩)
  (c31 : PySem.W.codeIn K cd31 "is_number" = true)
  (k31 : PySem.W.keepIn K (.ref f31) = true)
  (a32 : PySem.W.nsIn K mainGlobals "pattern_parts" = some (some (.ref f32)))
  (l32 : K.lookup f32 = some ⟨oc32, od32, .func (PySem.W.fnOf "pattern_parts" "pattern_parts" (defArgs s_pattern_parts) (defBody s_pattern_parts) (defScope s_pattern_parts) .none kV32 dc32 pm32 an32 cd32 ct32), sl32⟩)
  (c32 : PySem.W.codeIn K cd32 "pattern_parts" = true)
  (k32 : PySem.W.keepIn K (.ref f32) = true)
  (a33 : PySem.W.nsIn K mainGlobals "build_parts" = some (some (.ref f33)))
  (l33 : K.lookup f33 = some ⟨oc33, od33, .func (PySem.W.fnOf "build_parts" "build_parts" (defArgs s_build_parts) (defBody s_build_parts) (defScope s_build_parts) .none kV33 dc33 pm33 an33 cd33 ct33), sl33⟩)
  (c33 : PySem.W.codeIn K cd33 "build_parts" = true)
  (k33 : PySem.W.keepIn K (.ref f33) = true)
  (a34 : PySem.W.nsIn K mainGlobals "is_label" = some (some (.ref f34)))
  (l34 : K.lookup f34 = some ⟨oc34, od34, .func (PySem.W.fnOf "is_label" "is_label" (defArgs s_is_label) (defBody s_is_label) (defScope s_is_label) .none kV34 dc34 pm34 an34 cd34 ct34), sl34⟩)
  (c34 : PySem.W.codeIn K cd34 "is_label" = true)
  (k34 : PySem.W.keepIn K (.ref f34) = true)
  (a35 : PySem.W.nsIn K mainGlobals "dos_of" = some (some (.ref f35)))
  (l35 : K.lookup f35 = some ⟨oc35, od35, .func (PySem.W.fnOf "dos_of" "dos_of" (defArgs s_dos_of) (defBody s_dos_of) (defScope s_dos_of) .none kV35 dc35 pm35 an35 cd35 ct35), sl35⟩)
  (c35 : PySem.W.codeIn K cd35 "dos_of" = true)
  (k35 : PySem.W.keepIn K (.ref f35) = true)
  (a36 : PySem.W.findIn K (.ref C0) "parts" = some (some (.ref f36)))
  (i36 : PySem.W.isFn K (.ref f36) = true)
  (l36 : K.lookup f36 = some ⟨oc36, od36, .func (PySem.W.fnOf "parts" "Telling.parts" (defArgs s_Telling_parts) (defBody s_Telling_parts) (defScope s_Telling_parts) .none kV36 dc36 pm36 an36 cd36 ct36), sl36⟩)
  (c36 : PySem.W.codeIn K cd36 "Telling.parts" = true)
  (k36 : PySem.W.keepIn K (.ref f36) = true)
  (a37 : PySem.W.findIn K (.ref C0) "built" = some (some (.ref f37)))
  (i37 : PySem.W.isFn K (.ref f37) = true)
  (l37 : K.lookup f37 = some ⟨oc37, od37, .func (PySem.W.fnOf "built" "Telling.built" (defArgs s_Telling_built) (defBody s_Telling_built) (defScope s_Telling_built) .none kV37 dc37 pm37 an37 cd37 ct37), sl37⟩)
  (c37 : PySem.W.codeIn K cd37 "Telling.built" = true)
  (k37 : PySem.W.keepIn K (.ref f37) = true)
  (a38 : PySem.W.nsIn K mainGlobals "rules_at" = some (some (.ref f38)))
  (l38 : K.lookup f38 = some ⟨oc38, od38, .func (PySem.W.fnOf "rules_at" "rules_at" (defArgs s_rules_at) (defBody s_rules_at) (defScope s_rules_at) .none kV38 dc38 pm38 an38 cd38 ct38), sl38⟩)
  (c38 : PySem.W.codeIn K cd38 "rules_at" = true)
  (k38 : PySem.W.keepIn K (.ref f38) = true)
  (a39 : PySem.W.nsIn K mainGlobals "above" = some (some (.ref f39)))
  (l39 : K.lookup f39 = some ⟨oc39, od39, .func (PySem.W.fnOf "above" "above" (defArgs s_above) (defBody s_above) (defScope s_above) .none kV39 dc39 pm39 an39 cd39 ct39), sl39⟩)
  (c39 : PySem.W.codeIn K cd39 "above" = true)
  (k39 : PySem.W.keepIn K (.ref f39) = true)
  (a40 : PySem.W.nsIn K mainGlobals "has_path" = some (some (.ref f40)))
  (l40 : K.lookup f40 = some ⟨oc40, od40, .func (PySem.W.fnOf "has_path" "has_path" (defArgs s_has_path) (defBody s_has_path) (defScope s_has_path) .none kV40 dc40 pm40 an40 cd40 ct40), sl40⟩)
  (c40 : PySem.W.codeIn K cd40 "has_path" = true)
  (k40 : PySem.W.keepIn K (.ref f40) = true)
  (a41 : PySem.W.nsIn K mainGlobals "fits" = some (some (.ref f41)))
  (l41 : K.lookup f41 = some ⟨oc41, od41, .func (PySem.W.fnOf "fits" "fits" (defArgs s_fits) (defBody s_fits) (defScope s_fits) .none kV41 dc41 pm41 an41 cd41 ct41), sl41⟩)
  (c41 : PySem.W.codeIn K cd41 "fits" = true)
  (k41 : PySem.W.keepIn K (.ref f41) = true)
  (a42 : PySem.W.nsIn K mainGlobals "is_at" = some (some (.ref f42)))
  (l42 : K.lookup f42 = some ⟨oc42, od42, .func (PySem.W.fnOf "is_at" "is_at" (defArgs s_is_at) (defBody s_is_at) (defScope s_is_at) .none kV42 dc42 pm42 an42 cd42 ct42), sl42⟩)
  (c42 : PySem.W.codeIn K cd42 "is_at" = true)
  (k42 : PySem.W.keepIn K (.ref f42) = true)
  (rfl_ca0 : cd0 = .ref cA0)
  (xk0 : K.lookup cA0 = some ⟨kO0, kD0, .fields kW0, kS0⟩)
  (rfl_kw0 : (kW0[11]? : Option Value) = some (.ref tT0))
  (g0 : PySem.W.nsIn K mainGlobals "ANY" = some (some (.ref T0)))
  (h0 : K.lookup T0 = some ⟨.type "tuple", d0, .seq #[.str "any" t0] nn0, ss0⟩)
  (g1 : PySem.W.nsIn K mainGlobals "DO" = some (some (.str "do" t1)))
  (g2 : PySem.W.nsIn K mainGlobals "LABELS" = some (some (.str "abcdef" t2)))
  (g3 : PySem.W.nsIn K mainGlobals "LEAF" = some (some (.ref T3)))
  (h3 : K.lookup T3 = some ⟨.type "tuple", d3, .seq #[.str "leaf" t3] nn3, ss3⟩)
  (g4 : PySem.W.nsIn K mainGlobals "MOST_BUILD" = some (some (.int 12 t4)))
  (g5 : PySem.W.nsIn K mainGlobals "MOST_BUILD_DEEP" = some (some (.int 4 t5)))
  (g6 : PySem.W.nsIn K mainGlobals "MOST_DEEP" = some (some (.int 12 t6)))
  (g7 : PySem.W.nsIn K mainGlobals "MOST_KIDS" = some (some (.int 3 t7)))
  (g8 : PySem.W.nsIn K mainGlobals "MOST_PARTS" = some (some (.int 7 t8)))
  (g9 : PySem.W.nsIn K mainGlobals "MOST_PATTERN_DEEP" = some (some (.int 3 t9)))
  (g10 : PySem.W.nsIn K mainGlobals "MOST_PLACES" = some (some (.int 60 t10)))
  (g11 : PySem.W.nsIn K mainGlobals "MOST_RULES" = some (some (.int 16 t11)))
  (g12 : PySem.W.nsIn K mainGlobals "MOST_STATE" = some (some (.int 5 t12)))
  (g13 : PySem.W.nsIn K mainGlobals "MOST_TOLD" = some (some (.int 400 t13)))
  (z0 : PySem.W.nsIn K mainGlobals "bool" = some none)
  (z1 : PySem.W.nsIn K mainGlobals "dict" = some none)
  (z2 : PySem.W.nsIn K mainGlobals "enumerate" = some none)
  (z3 : PySem.W.nsIn K mainGlobals "int" = some none)
  (z4 : PySem.W.nsIn K mainGlobals "isinstance" = some none)
  (z5 : PySem.W.nsIn K mainGlobals "len" = some none)
  (z6 : PySem.W.nsIn K mainGlobals "list" = some none)
  (z7 : PySem.W.nsIn K mainGlobals "range" = some none)
  (z8 : PySem.W.nsIn K mainGlobals "sorted" = some none)
  (z9 : PySem.W.nsIn K mainGlobals "str" = some none)
  (z10 : PySem.W.nsIn K mainGlobals "sum" = some none)
  (z11 : PySem.W.nsIn K mainGlobals "tuple" = some none)
  (kmax F : Nat) (hev : ∀ ns : List Int, ns.length ≤ 63 → ∃ st, pr.call F kmax f_law [.fl (ns.map D.int)] [] = .ok (.bl true) st) :
  LamX.LawAtS l w K (L2.CX l.prog w) (2 * kmax + 1) 63 "_law_script" mg fa h := by
  have e := hfa.symm.trans (PySem.W.mg_of X G a0)
  cases e
  have F0 := fun_mk (st := s_law) l0 c0 k0
  have b0 := F0.binds (ps := P_law) fun _ _ _ _ _ _ us hl => match us, hl with | [_], _ => rfl
  have F1 := fun_mk (st := s_law_begun) l1 c1 k1
  have b1 := F1.binds (ps := P_law_begun) fun _ _ _ _ _ _ us hl => match us, hl with | [_], _ => rfl
  have F2 := fun_mk (st := s_law_letters) l2 c2 k2
  have b2 := F2.binds (ps := P_law_letters) fun _ _ _ _ _ _ us hl => match us, hl with | [_], _ => rfl
  have F3 := fun_mk (st := s_law_book) l3 c3 k3
  have b3 := F3.binds (ps := P_law_book) fun _ _ _ _ _ _ us hl => match us, hl with | [_, _], _ => rfl
  have F4 := fun_mk (st := s_law_tree) l4 c4 k4
  have b4 := F4.binds (ps := P_law_tree) fun _ _ _ _ _ _ us hl => match us, hl with | [_, _], _ => rfl
  have F5 := fun_mk (st := s_told) l5 c5 k5
  have b5 := F5.binds (ps := P_told) fun _ _ _ _ _ _ us hl => match us, hl with | [_, _], _ => rfl
  have F6 := fun_mk (st := s_origins) l6 c6 k6
  have b6 := F6.binds (ps := P_origins) fun _ _ _ _ _ _ us hl => match us, hl with | [_, _], _ => rfl
  have F7 := fun_mk (st := s_law_right) l7 c7 k7
  have b7 := F7.binds (ps := P_law_right) fun _ _ _ _ _ _ us hl => match us, hl with | [_, _, _, _], _ => rfl
  have F8 := fun_mk (st := s_law_places) l8 c8 k8
  have b8 := F8.binds (ps := P_law_places) fun _ _ _ _ _ _ us hl => match us, hl with | [_], _ => rfl
  have F9 := fun_mk (st := s_comes_of) l9 c9 k9
  have b9 := F9.binds (ps := P_comes_of) fun _ _ _ _ _ _ us hl => match us, hl with | [_, _, _], _ => rfl
  have F10 := fun_mk (st := s_law_take) l10 c10 k10
  have b10 := F10.binds (ps := P_law_take) fun _ _ _ _ _ _ us hl => match us, hl with | [_, _], _ => rfl
  have F11 := fun_mk (st := s_law_rule) l11 c11 k11
  have b11 := F11.binds (ps := P_law_rule) fun _ _ _ _ _ _ us hl => match us, hl with | [_, _, _], _ => rfl
  have F12 := fun_mk (st := s_law_grown) l12 c12 k12
  have b12 := F12.binds (ps := P_law_grown) fun _ _ _ _ _ _ us hl => match us, hl with | [_, _, _, _], _ => rfl
  have F13 := fun_mk (st := s_need_book) l13 c13 k13
  have b13 := F13.binds (ps := P_need_book) fun _ _ _ _ _ _ us hl => match us, hl with | [_], _ => rfl
  have F14 := fun_mk (st := s_need_tree) l14 c14 k14
  have b14 := F14.binds (ps := P_need_tree) fun _ _ _ _ _ _ us hl => match us, hl with | [_], _ => rfl
  have F15 := fun_mk (st := s_told_by) l15 c15 k15
  have b15 := F15.binds (ps := P_told_by) fun _ _ _ _ _ _ us hl => match us, hl with | [_, _], _ => rfl
  have F16 := fun_mk (st := s_origins_at) l16 c16 k16
  have b16 := F16.binds (ps := P_origins_at) fun _ _ _ _ _ _ us hl => match us, hl with | [_, _, _], _ => rfl
  have F17 := fun_mk (st := s_law_labels) l17 c17 k17
  have b17 := F17.binds (ps := P_law_labels) fun _ _ _ _ _ _ us hl => match us, hl with | [_], _ => rfl
  have F18 := fun_mk (st := s_law_fitting) l18 c18 k18
  have b18 := F18.binds (ps := P_law_fitting) fun _ _ _ _ _ _ us hl => match us, hl with | [_, _, _, _], _ => rfl
  have F19 := fun_mk (st := s_at_place) l19 c19 k19
  have b19 := F19.binds (ps := P_at_place) fun _ _ _ _ _ _ us hl => match us, hl with | [_, _], _ => rfl
  have F20 := fun_mk (st := s_law_pattern) l20 c20 k20
  have b20 := F20.binds (ps := P_law_pattern) fun _ _ _ _ _ _ us hl => match us, hl with | [_, _, _], _ => rfl
  have F21 := fun_mk (st := s_law_parts) l21 c21 k21
  have b21 := F21.binds (ps := P_law_parts) fun _ _ _ _ _ _ us hl => match us, hl with | [_], _ => rfl
  have F22 := fun_mk (st := s_law_paths) l22 c22 k22
  have b22 := F22.binds (ps := P_law_paths) fun _ _ _ _ _ _ us hl => match us, hl with | [_], _ => rfl
  have F23 := fun_mk (st := s_law_build) l23 c23 k23
  have b23 := F23.binds (ps := P_law_build) fun _ _ _ _ _ _ us hl => match us, hl with | [_, _, _, _, _], _ => rfl
  have F24 := fun_mk (st := s_is_rule) l24 c24 k24
  have b24 := F24.binds (ps := P_is_rule) fun _ _ _ _ _ _ us hl => match us, hl with | [_], _ => rfl
  have F25 := fun_mk (st := s_is_node) l25 c25 k25
  have b25 := F25.binds (ps := P_is_node) fun _ _ _ _ _ _ us hl => match us, hl with | [_], _ => rfl
  have F26 := fun_mk (st := s_Telling_init) l26 c26 k26
  have b26 := F26.binds (ps := P_Telling_init) fun _ _ _ _ _ _ us hl => match us, hl with | [_, _, _], _ => rfl
  have F27 := fun_mk (st := s_Telling_reach) l27 c27 k27
  have b27 := F27.binds (ps := P_Telling_reach) fun _ _ _ _ _ _ us hl => match us, hl with | [_, _, _], _ => rfl
  have F28 := fun_mk (st := s_Telling_rule) l28 c28 k28
  have b28 := F28.binds (ps := P_Telling_rule) fun _ _ _ _ _ _ us hl => match us, hl with | [_, _, _], _ => rfl
  have F29 := fun_mk (st := s_law_fits) l29 c29 k29
  have b29 := F29.binds (ps := P_law_fits) fun _ _ _ _ _ _ us hl => match us, hl with | [_, _], _ => rfl
  have F30 := fun_mk (st := s_is_spot) l30 c30 k30
  have b30 := F30.binds (ps := P_is_spot) fun _ _ _ _ _ _ us hl => match us, hl with | [_], _ => rfl
  have F31 := fun_mk (st := s_is_number) l31 c31 k31
  have b31 := F31.binds (ps := P_is_number) fun _ _ _ _ _ _ us hl => match us, hl with | [_, _, _], _ => rfl
  have F32 := fun_mk (st := s_pattern_parts) l32 c32 k32
  have b32 := F32.binds (ps := P_pattern_parts) fun _ _ _ _ _ _ us hl => match us, hl with | [_, _], _ => rfl
  have F33 := fun_mk (st := s_build_parts) l33 c33 k33
  have b33 := F33.binds (ps := P_build_parts) fun _ _ _ _ _ _ us hl => match us, hl with | [_, _, _], _ => rfl
  have F34 := fun_mk (st := s_is_label) l34 c34 k34
  have b34 := F34.binds (ps := P_is_label) fun _ _ _ _ _ _ us hl => match us, hl with | [_], _ => rfl
  have F35 := fun_mk (st := s_dos_of) l35 c35 k35
  have b35 := F35.binds (ps := P_dos_of) fun _ _ _ _ _ _ us hl => match us, hl with | [_], _ => rfl
  have F36 := fun_mk (st := s_Telling_parts) l36 c36 k36
  have b36 := F36.binds (ps := P_Telling_parts) fun _ _ _ _ _ _ us hl => match us, hl with | [_, _, _], _ => rfl
  have F37 := fun_mk (st := s_Telling_built) l37 c37 k37
  have b37 := F37.binds (ps := P_Telling_built) fun _ _ _ _ _ _ us hl => match us, hl with | [_, _, _], _ => rfl
  have F38 := fun_mk (st := s_rules_at) l38 c38 k38
  have b38 := F38.binds (ps := P_rules_at) fun _ _ _ _ _ _ us hl => match us, hl with | [_, _, _, _, _], _ => rfl
  have F39 := fun_mk (st := s_above) l39 c39 k39
  have b39 := F39.binds (ps := P_above) fun _ _ _ _ _ _ us hl => match us, hl with | [_, _], _ => rfl
  have F40 := fun_mk (st := s_has_path) l40 c40 k40
  have b40 := F40.binds (ps := P_has_path) fun _ _ _ _ _ _ us hl => match us, hl with | [_, _], _ => rfl
  have F41 := fun_mk (st := s_fits) l41 c41 k41
  have b41 := F41.binds (ps := P_fits) fun _ _ _ _ _ _ us hl => match us, hl with | [_, _], _ => rfl
  have F42 := fun_mk (st := s_is_at) l42 c42 k42
  have b42 := F42.binds (ps := P_is_at) fun _ _ _ _ _ _ us hl => match us, hl with | [_, _, _], _ => rfl
  obtain ⟨cc0, cP0, ec0, hC0, hP0⟩ := tabOf tabs X hr0 hfa l0
  subst ec0
  have eC0 : cc0 = cA0 := Value.ref.inj rfl_ca0
  have eP0 : cP0 = tT0 := tabK_eq X (by rw [eC0]; exact xk0) rfl_kw0 hC0
  have tT : ∀ p ∈ ([(cc0, cP0)] : List (Addr × Addr)), h.get? p.2 = some { cls := .none, data := .fields #[] } := fun p hp => by
    simp only [List.mem_cons, List.not_mem_nil, or_false] at hp
    rcases hp with rfl
    · exact hP0
  have tC : ∀ p ∈ ([(cc0, cP0)] : List (Addr × Addr)), PySem.W.CodeHd h p.1 p.2 := fun p hp => by
    simp only [List.mem_cons, List.not_mem_nil, or_false] at hp
    rcases hp with rfl
    · exact hC0
  refine ⟨PySem.W.fnOf "law" "law" (defArgs s_law) (defBody s_law) (defScope s_law) .none kV0 dc0 pm0 an0 (.ref cc0) ct0, [(cc0, cP0)], spLawL [(cP0, (PyProof.Rows.envOfC "law" (defScope s_law) 0 0 .none).qual ++ "<lambda>")] K, tT, fun p hp => noTab hK X (tT p hp), tC, fun s v => .of_eq rfl, fun H a ns hl _ hH hS => ⟨a, ns, rfl, fun p hp => ?_, hS, hl, fun _ => rfl⟩, fun base _ _ TB => ?_⟩
  · simp only [List.mem_cons, List.not_mem_nil, or_false] at hp
    rcases hp with rfl
    · exact hH (cc0, cP0) (by simp)
  let W : Wd := {
    P := l.prog, w := w, K := K, mg := mg, base := base, pr := pr, F := F,
    fa := (fun i => match i with | 0 => fa | 1 => f1 | 2 => f2 | 3 => f3 | 4 => f4 | 5 => f5 | 6 => f6 | 7 => f7 | 8 => f8 | 9 => f9 | 10 => f10 | 11 => f11 | 12 => f12 | 13 => f13 | 14 => f14 | 15 => f15 | 16 => f16 | 17 => f17 | 18 => f18 | 19 => f19 | 20 => f20 | 21 => f21 | 22 => f22 | 23 => f23 | 24 => f24 | 25 => f25 | 26 => f26 | 27 => f27 | 28 => f28 | 29 => f29 | 30 => f30 | 31 => f31 | 32 => f32 | 33 => f33 | 34 => f34 | 35 => f35 | 36 => f36 | 37 => f37 | 38 => f38 | 39 => f39 | 40 => f40 | 41 => f41 | 42 => f42 | _ => fa),
    fd := (fun i => match i with | 0 => PySem.W.fnOf "law" "law" (defArgs s_law) (defBody s_law) (defScope s_law) .none kV0 dc0 pm0 an0 (.ref cc0) ct0 | 1 => PySem.W.fnOf "_law_begun" "_law_begun" (defArgs s_law_begun) (defBody s_law_begun) (defScope s_law_begun) .none kV1 dc1 pm1 an1 cd1 ct1 | 2 => PySem.W.fnOf "_law_letters" "_law_letters" (defArgs s_law_letters) (defBody s_law_letters) (defScope s_law_letters) .none kV2 dc2 pm2 an2 cd2 ct2 | 3 => PySem.W.fnOf "_law_book" "_law_book" (defArgs s_law_book) (defBody s_law_book) (defScope s_law_book) .none kV3 dc3 pm3 an3 cd3 ct3 | 4 => PySem.W.fnOf "_law_tree" "_law_tree" (defArgs s_law_tree) (defBody s_law_tree) (defScope s_law_tree) .none kV4 dc4 pm4 an4 cd4 ct4 | 5 => PySem.W.fnOf "told" "told" (defArgs s_told) (defBody s_told) (defScope s_told) .none kV5 dc5 pm5 an5 cd5 ct5 | 6 => PySem.W.fnOf "origins" "origins" (defArgs s_origins) (defBody s_origins) (defScope s_origins) .none kV6 dc6 pm6 an6 cd6 ct6 | 7 => PySem.W.fnOf "_law_right" "_law_right" (defArgs s_law_right) (defBody s_law_right) (defScope s_law_right) .none kV7 dc7 pm7 an7 cd7 ct7 | 8 => PySem.W.fnOf "_law_places" "_law_places" (defArgs s_law_places) (defBody s_law_places) (defScope s_law_places) .none kV8 dc8 pm8 an8 cd8 ct8 | 9 => PySem.W.fnOf "comes_of" "comes_of" (defArgs s_comes_of) (defBody s_comes_of) (defScope s_comes_of) .none kV9 dc9 pm9 an9 cd9 ct9 | 10 => PySem.W.fnOf "_law_take" "_law_take" (defArgs s_law_take) (defBody s_law_take) (defScope s_law_take) .none kV10 dc10 pm10 an10 cd10 ct10 | 11 => PySem.W.fnOf "_law_rule" "_law_rule" (defArgs s_law_rule) (defBody s_law_rule) (defScope s_law_rule) .none kV11 dc11 pm11 an11 cd11 ct11 | 12 => PySem.W.fnOf "_law_grown" "_law_grown" (defArgs s_law_grown) (defBody s_law_grown) (defScope s_law_grown) .none kV12 dc12 pm12 an12 cd12 ct12 | 13 => PySem.W.fnOf "need_book" "need_book" (defArgs s_need_book) (defBody s_need_book) (defScope s_need_book) .none kV13 dc13 pm13 an13 cd13 ct13 | 14 => PySem.W.fnOf "need_tree" "need_tree" (defArgs s_need_tree) (defBody s_need_tree) (defScope s_need_tree) .none kV14 dc14 pm14 an14 cd14 ct14 | 15 => PySem.W.fnOf "told_by" "told_by" (defArgs s_told_by) (defBody s_told_by) (defScope s_told_by) .none kV15 dc15 pm15 an15 cd15 ct15 | 16 => PySem.W.fnOf "origins_at" "origins_at" (defArgs s_origins_at) (defBody s_origins_at) (defScope s_origins_at) .none kV16 dc16 pm16 an16 cd16 ct16 | 17 => PySem.W.fnOf "_law_labels" "_law_labels" (defArgs s_law_labels) (defBody s_law_labels) (defScope s_law_labels) .none kV17 dc17 pm17 an17 cd17 ct17 | 18 => PySem.W.fnOf "_law_fitting" "_law_fitting" (defArgs s_law_fitting) (defBody s_law_fitting) (defScope s_law_fitting) .none kV18 dc18 pm18 an18 cd18 ct18 | 19 => PySem.W.fnOf "at_place" "at_place" (defArgs s_at_place) (defBody s_at_place) (defScope s_at_place) .none kV19 dc19 pm19 an19 cd19 ct19 | 20 => PySem.W.fnOf "_law_pattern" "_law_pattern" (defArgs s_law_pattern) (defBody s_law_pattern) (defScope s_law_pattern) .none kV20 dc20 pm20 an20 cd20 ct20 | 21 => PySem.W.fnOf "_law_parts" "_law_parts" (defArgs s_law_parts) (defBody s_law_parts) (defScope s_law_parts) .none kV21 dc21 pm21 an21 cd21 ct21 | 22 => PySem.W.fnOf "_law_paths" "_law_paths" (defArgs s_law_paths) (defBody s_law_paths) (defScope s_law_paths) .none kV22 dc22 pm22 an22 cd22 ct22 | 23 => PySem.W.fnOf "_law_build" "_law_build" (defArgs s_law_build) (defBody s_law_build) (defScope s_law_build) .none kV23 dc23 pm23 an23 cd23 ct23 | 24 => PySem.W.fnOf "is_rule" "is_rule" (defArgs s_is_rule) (defBody s_is_rule) (defScope s_is_rule) .none kV24 dc24 pm24 an24 cd24 ct24 | 25 => PySem.W.fnOf "is_node" "is_node" (defArgs s_is_node) (defBody s_is_node) (defScope s_is_node) .none kV25 dc25 pm25 an25 cd25 ct25 | 26 => PySem.W.fnOf "__init__" "Telling.__init__" (defArgs s_Telling_init) (defBody s_Telling_init) (defScope s_Telling_init) .none kV26 dc26 pm26 an26 cd26 ct26 | 27 => PySem.W.fnOf "reach" "Telling.reach" (defArgs s_Telling_reach) (defBody s_Telling_reach) (defScope s_Telling_reach) .none kV27 dc27 pm27 an27 cd27 ct27 | 28 => PySem.W.fnOf "rule" "Telling.rule" (defArgs s_Telling_rule) (defBody s_Telling_rule) (defScope s_Telling_rule) .none kV28 dc28 pm28 an28 cd28 ct28 | 29 => PySem.W.fnOf "_law_fits" "_law_fits" (defArgs s_law_fits) (defBody s_law_fits) (defScope s_law_fits) .none kV29 dc29 pm29 an29 cd29 ct29 | 30 => PySem.W.fnOf "is_spot" "is_spot" (defArgs s_is_spot) (defBody s_is_spot) (defScope s_is_spot) .none kV30 dc30 pm30 an30 cd30 ct30 | 31 => PySem.W.fnOf "is_number" "is_number" (defArgs s_is_number) (defBody s_is_number) (defScope s_is_number) .none kV31 dc31 pm31 an31 cd31 ct31 | 32 => PySem.W.fnOf "pattern_parts" "pattern_parts" (defArgs s_pattern_parts) (defBody s_pattern_parts) (defScope s_pattern_parts) .none kV32 dc32 pm32 an32 cd32 ct32 | 33 => PySem.W.fnOf "build_parts" "build_parts" (defArgs s_build_parts) (defBody s_build_parts) (defScope s_build_parts) .none kV33 dc33 pm33 an33 cd33 ct33 | 34 => PySem.W.fnOf "is_label" "is_label" (defArgs s_is_label) (defBody s_is_label) (defScope s_is_label) .none kV34 dc34 pm34 an34 cd34 ct34 | 35 => PySem.W.fnOf "dos_of" "dos_of" (defArgs s_dos_of) (defBody s_dos_of) (defScope s_dos_of) .none kV35 dc35 pm35 an35 cd35 ct35 | 36 => PySem.W.fnOf "parts" "Telling.parts" (defArgs s_Telling_parts) (defBody s_Telling_parts) (defScope s_Telling_parts) .none kV36 dc36 pm36 an36 cd36 ct36 | 37 => PySem.W.fnOf "built" "Telling.built" (defArgs s_Telling_built) (defBody s_Telling_built) (defScope s_Telling_built) .none kV37 dc37 pm37 an37 cd37 ct37 | 38 => PySem.W.fnOf "rules_at" "rules_at" (defArgs s_rules_at) (defBody s_rules_at) (defScope s_rules_at) .none kV38 dc38 pm38 an38 cd38 ct38 | 39 => PySem.W.fnOf "above" "above" (defArgs s_above) (defBody s_above) (defScope s_above) .none kV39 dc39 pm39 an39 cd39 ct39 | 40 => PySem.W.fnOf "has_path" "has_path" (defArgs s_has_path) (defBody s_has_path) (defScope s_has_path) .none kV40 dc40 pm40 an40 cd40 ct40 | 41 => PySem.W.fnOf "fits" "fits" (defArgs s_fits) (defBody s_fits) (defScope s_fits) .none kV41 dc41 pm41 an41 cd41 ct41 | 42 => PySem.W.fnOf "is_at" "is_at" (defArgs s_is_at) (defBody s_is_at) (defScope s_is_at) .none kV42 dc42 pm42 an42 cd42 ct42 | _ => PySem.W.fnOf "law" "law" (defArgs s_law) (defBody s_law) (defScope s_law) .none kV0 dc0 pm0 an0 (.ref cc0) ct0),
    ps := (fun i => match i with | 0 => P_law | 1 => P_law_begun | 2 => P_law_letters | 3 => P_law_book | 4 => P_law_tree | 5 => P_told | 6 => P_origins | 7 => P_law_right | 8 => P_law_places | 9 => P_comes_of | 10 => P_law_take | 11 => P_law_rule | 12 => P_law_grown | 13 => P_need_book | 14 => P_need_tree | 15 => P_told_by | 16 => P_origins_at | 17 => P_law_labels | 18 => P_law_fitting | 19 => P_at_place | 20 => P_law_pattern | 21 => P_law_parts | 22 => P_law_paths | 23 => P_law_build | 24 => P_is_rule | 25 => P_is_node | 26 => P_Telling_init | 27 => P_Telling_reach | 28 => P_Telling_rule | 29 => P_law_fits | 30 => P_is_spot | 31 => P_is_number | 32 => P_pattern_parts | 33 => P_build_parts | 34 => P_is_label | 35 => P_dos_of | 36 => P_Telling_parts | 37 => P_Telling_built | 38 => P_rules_at | 39 => P_above | 40 => P_has_path | 41 => P_fits | 42 => P_is_at | _ => []),
    ca := (fun c => match c with | 0 => C0 | 1 => Z_BadBook | 2 => Z_BadTree | 3 => Z_BadPlace | 4 => Z_TooBig | _ => fa), ncl := 1, T := [(cP0, (PyProof.Rows.envOfC "law" (defScope s_law) 0 0 .none).qual ++ "<lambda>")] }
  let TTab : List (Addr × Str) := [(cP0, (PyProof.Rows.envOfC "law" (defScope s_law) 0 0 .none).qual ++ "<lambda>")]
  have ndT : (TTab.map (·.1)).Nodup := by show List.Nodup ([cP0] : List Addr); simp
  have hdef : ∀ (i : Nat) (fi : FnIR), W.pr.fns[i]? = some fi → DefOk W cc i fi := by
    intro i fi hi
    have hi : fns[i]? = some fi := hi
    match i, hi with
    | 0, hi => cases hi; exact ⟨⟨_, _, s_law, N_law, some (cc0, (PyProof.Rows.envOfC "law" (defScope s_law) 0 0 .none).qual), F0, sc_law, ck_law _ _, rfl, rfl, by decide, fun _ => rfl, fun c q e => by cases e; exact ⟨rfl, rfl, cP0, TB (cc0, cP0) (List.mem_cons_self), (show _ ∈ TTab from (List.mem_cons_self)), fun p hp hz => tab_uniq ndT (a := cP0) (List.mem_cons_self) p hp hz⟩⟩⟩
    | 1, hi => cases hi; exact ⟨⟨_, _, s_law_begun, N_law_begun, none, F1, sc_law_begun, ck_law_begun, rfl, rfl, by decide, fun e => Bool.noConfusion e, fun c q e => nomatch e⟩⟩
    | 2, hi => cases hi; exact ⟨⟨_, _, s_law_letters, N_law_letters, none, F2, sc_law_letters, ck_law_letters, rfl, rfl, by decide, fun e => Bool.noConfusion e, fun c q e => nomatch e⟩⟩
    | 3, hi => cases hi; exact ⟨⟨_, _, s_law_book, N_law_book, none, F3, sc_law_book, ck_law_book, rfl, rfl, by decide, fun e => Bool.noConfusion e, fun c q e => nomatch e⟩⟩
    | 4, hi => cases hi; exact ⟨⟨_, _, s_law_tree, N_law_tree, none, F4, sc_law_tree, ck_law_tree, rfl, rfl, by decide, fun e => Bool.noConfusion e, fun c q e => nomatch e⟩⟩
    | 5, hi => cases hi; exact ⟨⟨_, _, s_told, N_told, none, F5, sc_told, ck_told, rfl, rfl, by decide, fun e => Bool.noConfusion e, fun c q e => nomatch e⟩⟩
    | 6, hi => cases hi; exact ⟨⟨_, _, s_origins, N_origins, none, F6, sc_origins, ck_origins, rfl, rfl, by decide, fun e => Bool.noConfusion e, fun c q e => nomatch e⟩⟩
    | 7, hi => cases hi; exact ⟨⟨_, _, s_law_right, N_law_right, none, F7, sc_law_right, ck_law_right, rfl, rfl, by decide, fun e => Bool.noConfusion e, fun c q e => nomatch e⟩⟩
    | 8, hi => cases hi; exact ⟨⟨_, _, s_law_places, N_law_places, none, F8, sc_law_places, ck_law_places, rfl, rfl, by decide, fun e => Bool.noConfusion e, fun c q e => nomatch e⟩⟩
    | 9, hi => cases hi; exact ⟨⟨_, _, s_comes_of, N_comes_of, none, F9, sc_comes_of, ck_comes_of, rfl, rfl, by decide, fun e => Bool.noConfusion e, fun c q e => nomatch e⟩⟩
    | 10, hi => cases hi; exact ⟨⟨_, _, s_law_take, N_law_take, none, F10, sc_law_take, ck_law_take, rfl, rfl, by decide, fun e => Bool.noConfusion e, fun c q e => nomatch e⟩⟩
    | 11, hi => cases hi; exact ⟨⟨_, _, s_law_rule, N_law_rule, none, F11, sc_law_rule, ck_law_rule, rfl, rfl, by decide, fun e => Bool.noConfusion e, fun c q e => nomatch e⟩⟩
    | 12, hi => cases hi; exact ⟨⟨_, _, s_law_grown, N_law_grown, none, F12, sc_law_grown, ck_law_grown, rfl, rfl, by decide, fun e => Bool.noConfusion e, fun c q e => nomatch e⟩⟩
    | 13, hi => cases hi; exact ⟨⟨_, _, s_need_book, N_need_book, none, F13, sc_need_book, ck_need_book, rfl, rfl, by decide, fun e => Bool.noConfusion e, fun c q e => nomatch e⟩⟩
    | 14, hi => cases hi; exact ⟨⟨_, _, s_need_tree, N_need_tree, none, F14, sc_need_tree, ck_need_tree, rfl, rfl, by decide, fun e => Bool.noConfusion e, fun c q e => nomatch e⟩⟩
    | 15, hi => cases hi; exact ⟨⟨_, _, s_told_by, N_told_by, none, F15, sc_told_by, ck_told_by, rfl, rfl, by decide, fun e => Bool.noConfusion e, fun c q e => nomatch e⟩⟩
    | 16, hi => cases hi; exact ⟨⟨_, _, s_origins_at, N_origins_at, none, F16, sc_origins_at, ck_origins_at, rfl, rfl, by decide, fun e => Bool.noConfusion e, fun c q e => nomatch e⟩⟩
    | 17, hi => cases hi; exact ⟨⟨_, _, s_law_labels, N_law_labels, none, F17, sc_law_labels, ck_law_labels, rfl, rfl, by decide, fun e => Bool.noConfusion e, fun c q e => nomatch e⟩⟩
    | 18, hi => cases hi; exact ⟨⟨_, _, s_law_fitting, N_law_fitting, none, F18, sc_law_fitting, ck_law_fitting, rfl, rfl, by decide, fun e => Bool.noConfusion e, fun c q e => nomatch e⟩⟩
    | 19, hi => cases hi; exact ⟨⟨_, _, s_at_place, N_at_place, none, F19, sc_at_place, ck_at_place, rfl, rfl, by decide, fun e => Bool.noConfusion e, fun c q e => nomatch e⟩⟩
    | 20, hi => cases hi; exact ⟨⟨_, _, s_law_pattern, N_law_pattern, none, F20, sc_law_pattern, ck_law_pattern, rfl, rfl, by decide, fun e => Bool.noConfusion e, fun c q e => nomatch e⟩⟩
    | 21, hi => cases hi; exact ⟨⟨_, _, s_law_parts, N_law_parts, none, F21, sc_law_parts, ck_law_parts, rfl, rfl, by decide, fun e => Bool.noConfusion e, fun c q e => nomatch e⟩⟩
    | 22, hi => cases hi; exact ⟨⟨_, _, s_law_paths, N_law_paths, none, F22, sc_law_paths, ck_law_paths, rfl, rfl, by decide, fun e => Bool.noConfusion e, fun c q e => nomatch e⟩⟩
    | 23, hi => cases hi; exact ⟨⟨_, _, s_law_build, N_law_build, none, F23, sc_law_build, ck_law_build, rfl, rfl, by decide, fun e => Bool.noConfusion e, fun c q e => nomatch e⟩⟩
    | 24, hi => cases hi; exact ⟨⟨_, _, s_is_rule, N_is_rule, none, F24, sc_is_rule, ck_is_rule, rfl, rfl, by decide, fun e => Bool.noConfusion e, fun c q e => nomatch e⟩⟩
    | 25, hi => cases hi; exact ⟨⟨_, _, s_is_node, N_is_node, none, F25, sc_is_node, ck_is_node, rfl, rfl, by decide, fun e => Bool.noConfusion e, fun c q e => nomatch e⟩⟩
    | 26, hi => cases hi; exact ⟨⟨_, _, s_Telling_init, N_Telling_init, none, F26, sc_Telling_init, ck_Telling_init, rfl, rfl, by decide, fun e => Bool.noConfusion e, fun c q e => nomatch e⟩⟩
    | 27, hi => cases hi; exact ⟨⟨_, _, s_Telling_reach, N_Telling_reach, none, F27, sc_Telling_reach, ck_Telling_reach, rfl, rfl, by decide, fun e => Bool.noConfusion e, fun c q e => nomatch e⟩⟩
    | 28, hi => cases hi; exact ⟨⟨_, _, s_Telling_rule, N_Telling_rule, none, F28, sc_Telling_rule, ck_Telling_rule, rfl, rfl, by decide, fun e => Bool.noConfusion e, fun c q e => nomatch e⟩⟩
    | 29, hi => cases hi; exact ⟨⟨_, _, s_law_fits, N_law_fits, none, F29, sc_law_fits, ck_law_fits, rfl, rfl, by decide, fun e => Bool.noConfusion e, fun c q e => nomatch e⟩⟩
    | 30, hi => cases hi; exact ⟨⟨_, _, s_is_spot, N_is_spot, none, F30, sc_is_spot, ck_is_spot, rfl, rfl, by decide, fun e => Bool.noConfusion e, fun c q e => nomatch e⟩⟩
    | 31, hi => cases hi; exact ⟨⟨_, _, s_is_number, N_is_number, none, F31, sc_is_number, ck_is_number, rfl, rfl, by decide, fun e => Bool.noConfusion e, fun c q e => nomatch e⟩⟩
    | 32, hi => cases hi; exact ⟨⟨_, _, s_pattern_parts, N_pattern_parts, none, F32, sc_pattern_parts, ck_pattern_parts, rfl, rfl, by decide, fun e => Bool.noConfusion e, fun c q e => nomatch e⟩⟩
    | 33, hi => cases hi; exact ⟨⟨_, _, s_build_parts, N_build_parts, none, F33, sc_build_parts, ck_build_parts, rfl, rfl, by decide, fun e => Bool.noConfusion e, fun c q e => nomatch e⟩⟩
    | 34, hi => cases hi; exact ⟨⟨_, _, s_is_label, N_is_label, none, F34, sc_is_label, ck_is_label, rfl, rfl, by decide, fun e => Bool.noConfusion e, fun c q e => nomatch e⟩⟩
    | 35, hi => cases hi; exact ⟨⟨_, _, s_dos_of, N_dos_of, none, F35, sc_dos_of, ck_dos_of, rfl, rfl, by decide, fun e => Bool.noConfusion e, fun c q e => nomatch e⟩⟩
    | 36, hi => cases hi; exact ⟨⟨_, _, s_Telling_parts, N_Telling_parts, none, F36, sc_Telling_parts, ck_Telling_parts, rfl, rfl, by decide, fun e => Bool.noConfusion e, fun c q e => nomatch e⟩⟩
    | 37, hi => cases hi; exact ⟨⟨_, _, s_Telling_built, N_Telling_built, none, F37, sc_Telling_built, ck_Telling_built, rfl, rfl, by decide, fun e => Bool.noConfusion e, fun c q e => nomatch e⟩⟩
    | 38, hi => cases hi; exact ⟨⟨_, _, s_rules_at, N_rules_at, none, F38, sc_rules_at, ck_rules_at, rfl, rfl, by decide, fun e => Bool.noConfusion e, fun c q e => nomatch e⟩⟩
    | 39, hi => cases hi; exact ⟨⟨_, _, s_above, N_above, none, F39, sc_above, ck_above, rfl, rfl, by decide, fun e => Bool.noConfusion e, fun c q e => nomatch e⟩⟩
    | 40, hi => cases hi; exact ⟨⟨_, _, s_has_path, N_has_path, none, F40, sc_has_path, ck_has_path, rfl, rfl, by decide, fun e => Bool.noConfusion e, fun c q e => nomatch e⟩⟩
    | 41, hi => cases hi; exact ⟨⟨_, _, s_fits, N_fits, none, F41, sc_fits, ck_fits, rfl, rfl, by decide, fun e => Bool.noConfusion e, fun c q e => nomatch e⟩⟩
    | 42, hi => cases hi; exact ⟨⟨_, _, s_is_at, N_is_at, none, F42, sc_is_at, ck_is_at, rfl, rfl, by decide, fun e => Bool.noConfusion e, fun c q e => nomatch e⟩⟩
    | i + 43, hi => cases hi
  have hW : WOk W cc := by
    constructor
    · intro x i hx
      have hx : List.lookup x [(("law" : Str), f_law), (("_law_begun" : Str), f_law_begun), (("_law_letters" : Str), f_law_letters), (("_law_book" : Str), f_law_book), (("_law_tree" : Str), f_law_tree), (("told" : Str), f_told), (("origins" : Str), f_origins), (("_law_right" : Str), f_law_right), (("_law_places" : Str), f_law_places), (("comes_of" : Str), f_comes_of), (("_law_take" : Str), f_law_take), (("_law_rule" : Str), f_law_rule), (("_law_grown" : Str), f_law_grown), (("need_book" : Str), f_need_book), (("need_tree" : Str), f_need_tree), (("told_by" : Str), f_told_by), (("origins_at" : Str), f_origins_at), (("_law_labels" : Str), f_law_labels), (("_law_fitting" : Str), f_law_fitting), (("at_place" : Str), f_at_place), (("_law_pattern" : Str), f_law_pattern), (("_law_parts" : Str), f_law_parts), (("_law_paths" : Str), f_law_paths), (("_law_build" : Str), f_law_build), (("is_rule" : Str), f_is_rule), (("is_node" : Str), f_is_node), (("_law_fits" : Str), f_law_fits), (("is_spot" : Str), f_is_spot), (("is_number" : Str), f_is_number), (("pattern_parts" : Str), f_pattern_parts), (("build_parts" : Str), f_build_parts), (("is_label" : Str), f_is_label), (("dos_of" : Str), f_dos_of), (("rules_at" : Str), f_rules_at), (("above" : Str), f_above), (("has_path" : Str), f_has_path), (("fits" : Str), f_fits), (("is_at" : Str), f_is_at)] = some i := hx
      rw [lookupP] at hx; by_cases hq : x = ("law" : Str)
      · rw [if_pos hq] at hx; cases hx; subst hq; exact ⟨PySem.W.mg_of X G a0, k0, _, rfl⟩
      rw [if_neg hq] at hx; clear hq
      rw [lookupP] at hx; by_cases hq : x = ("_law_begun" : Str)
      · rw [if_pos hq] at hx; cases hx; subst hq; exact ⟨PySem.W.mg_of X G a1, k1, _, rfl⟩
      rw [if_neg hq] at hx; clear hq
      rw [lookupP] at hx; by_cases hq : x = ("_law_letters" : Str)
      · rw [if_pos hq] at hx; cases hx; subst hq; exact ⟨PySem.W.mg_of X G a2, k2, _, rfl⟩
      rw [if_neg hq] at hx; clear hq
      rw [lookupP] at hx; by_cases hq : x = ("_law_book" : Str)
      · rw [if_pos hq] at hx; cases hx; subst hq; exact ⟨PySem.W.mg_of X G a3, k3, _, rfl⟩
      rw [if_neg hq] at hx; clear hq
      rw [lookupP] at hx; by_cases hq : x = ("_law_tree" : Str)
      · rw [if_pos hq] at hx; cases hx; subst hq; exact ⟨PySem.W.mg_of X G a4, k4, _, rfl⟩
      rw [if_neg hq] at hx; clear hq
      rw [lookupP] at hx; by_cases hq : x = ("told" : Str)
      · rw [if_pos hq] at hx; cases hx; subst hq; exact ⟨PySem.W.mg_of X G a5, k5, _, rfl⟩
      rw [if_neg hq] at hx; clear hq
      rw [lookupP] at hx; by_cases hq : x = ("origins" : Str)
      · rw [if_pos hq] at hx; cases hx; subst hq; exact ⟨PySem.W.mg_of X G a6, k6, _, rfl⟩
      rw [if_neg hq] at hx; clear hq
      rw [lookupP] at hx; by_cases hq : x = ("_law_right" : Str)
      · rw [if_pos hq] at hx; cases hx; subst hq; exact ⟨PySem.W.mg_of X G a7, k7, _, rfl⟩
      rw [if_neg hq] at hx; clear hq
      rw [lookupP] at hx; by_cases hq : x = ("_law_places" : Str)
      · rw [if_pos hq] at hx; cases hx; subst hq; exact ⟨PySem.W.mg_of X G a8, k8, _, rfl⟩
      rw [if_neg hq] at hx; clear hq
      rw [lookupP] at hx; by_cases hq : x = ("comes_of" : Str)
      · rw [if_pos hq] at hx; cases hx; subst hq; exact ⟨PySem.W.mg_of X G a9, k9, _, rfl⟩
      rw [if_neg hq] at hx; clear hq
      rw [lookupP] at hx; by_cases hq : x = ("_law_take" : Str)
      · rw [if_pos hq] at hx; cases hx; subst hq; exact ⟨PySem.W.mg_of X G a10, k10, _, rfl⟩
      rw [if_neg hq] at hx; clear hq
      rw [lookupP] at hx; by_cases hq : x = ("_law_rule" : Str)
      · rw [if_pos hq] at hx; cases hx; subst hq; exact ⟨PySem.W.mg_of X G a11, k11, _, rfl⟩
      rw [if_neg hq] at hx; clear hq
      rw [lookupP] at hx; by_cases hq : x = ("_law_grown" : Str)
      · rw [if_pos hq] at hx; cases hx; subst hq; exact ⟨PySem.W.mg_of X G a12, k12, _, rfl⟩
      rw [if_neg hq] at hx; clear hq
      rw [lookupP] at hx; by_cases hq : x = ("need_book" : Str)
      · rw [if_pos hq] at hx; cases hx; subst hq; exact ⟨PySem.W.mg_of X G a13, k13, _, rfl⟩
      rw [if_neg hq] at hx; clear hq
      rw [lookupP] at hx; by_cases hq : x = ("need_tree" : Str)
      · rw [if_pos hq] at hx; cases hx; subst hq; exact ⟨PySem.W.mg_of X G a14, k14, _, rfl⟩
      rw [if_neg hq] at hx; clear hq
      rw [lookupP] at hx; by_cases hq : x = ("told_by" : Str)
      · rw [if_pos hq] at hx; cases hx; subst hq; exact ⟨PySem.W.mg_of X G a15, k15, _, rfl⟩
      rw [if_neg hq] at hx; clear hq
      rw [lookupP] at hx; by_cases hq : x = ("origins_at" : Str)
      · rw [if_pos hq] at hx; cases hx; subst hq; exact ⟨PySem.W.mg_of X G a16, k16, _, rfl⟩
      rw [if_neg hq] at hx; clear hq
      rw [lookupP] at hx; by_cases hq : x = ("_law_labels" : Str)
      · rw [if_pos hq] at hx; cases hx; subst hq; exact ⟨PySem.W.mg_of X G a17, k17, _, rfl⟩
      rw [if_neg hq] at hx; clear hq
      rw [lookupP] at hx; by_cases hq : x = ("_law_fitting" : Str)
      · rw [if_pos hq] at hx; cases hx; subst hq; exact ⟨PySem.W.mg_of X G a18, k18, _, rfl⟩
      rw [if_neg hq] at hx; clear hq
      rw [lookupP] at hx; by_cases hq : x = ("at_place" : Str)
      · rw [if_pos hq] at hx; cases hx; subst hq; exact ⟨PySem.W.mg_of X G a19, k19, _, rfl⟩
      rw [if_neg hq] at hx; clear hq
      rw [lookupP] at hx; by_cases hq : x = ("_law_pattern" : Str)
      · rw [if_pos hq] at hx; cases hx; subst hq; exact ⟨PySem.W.mg_of X G a20, k20, _, rfl⟩
      rw [if_neg hq] at hx; clear hq
      rw [lookupP] at hx; by_cases hq : x = ("_law_parts" : Str)
      · rw [if_pos hq] at hx; cases hx; subst hq; exact ⟨PySem.W.mg_of X G a21, k21, _, rfl⟩
      rw [if_neg hq] at hx; clear hq
      rw [lookupP] at hx; by_cases hq : x = ("_law_paths" : Str)
      · rw [if_pos hq] at hx; cases hx; subst hq; exact ⟨PySem.W.mg_of X G a22, k22, _, rfl⟩
      rw [if_neg hq] at hx; clear hq
      rw [lookupP] at hx; by_cases hq : x = ("_law_build" : Str)
      · rw [if_pos hq] at hx; cases hx; subst hq; exact ⟨PySem.W.mg_of X G a23, k23, _, rfl⟩
      rw [if_neg hq] at hx; clear hq
      rw [lookupP] at hx; by_cases hq : x = ("is_rule" : Str)
      · rw [if_pos hq] at hx; cases hx; subst hq; exact ⟨PySem.W.mg_of X G a24, k24, _, rfl⟩
      rw [if_neg hq] at hx; clear hq
      rw [lookupP] at hx; by_cases hq : x = ("is_node" : Str)
      · rw [if_pos hq] at hx; cases hx; subst hq; exact ⟨PySem.W.mg_of X G a25, k25, _, rfl⟩
      rw [if_neg hq] at hx; clear hq
      rw [lookupP] at hx; by_cases hq : x = ("_law_fits" : Str)
      · rw [if_pos hq] at hx; cases hx; subst hq; exact ⟨PySem.W.mg_of X G a29, k29, _, rfl⟩
      rw [if_neg hq] at hx; clear hq
      rw [lookupP] at hx; by_cases hq : x = ("is_spot" : Str)
      · rw [if_pos hq] at hx; cases hx; subst hq; exact ⟨PySem.W.mg_of X G a30, k30, _, rfl⟩
      rw [if_neg hq] at hx; clear hq
      rw [lookupP] at hx; by_cases hq : x = ("is_number" : Str)
      · rw [if_pos hq] at hx; cases hx; subst hq; exact ⟨PySem.W.mg_of X G a31, k31, _, rfl⟩
      rw [if_neg hq] at hx; clear hq
      rw [lookupP] at hx; by_cases hq : x = ("pattern_parts" : Str)
      · rw [if_pos hq] at hx; cases hx; subst hq; exact ⟨PySem.W.mg_of X G a32, k32, _, rfl⟩
      rw [if_neg hq] at hx; clear hq
      rw [lookupP] at hx; by_cases hq : x = ("build_parts" : Str)
      · rw [if_pos hq] at hx; cases hx; subst hq; exact ⟨PySem.W.mg_of X G a33, k33, _, rfl⟩
      rw [if_neg hq] at hx; clear hq
      rw [lookupP] at hx; by_cases hq : x = ("is_label" : Str)
      · rw [if_pos hq] at hx; cases hx; subst hq; exact ⟨PySem.W.mg_of X G a34, k34, _, rfl⟩
      rw [if_neg hq] at hx; clear hq
      rw [lookupP] at hx; by_cases hq : x = ("dos_of" : Str)
      · rw [if_pos hq] at hx; cases hx; subst hq; exact ⟨PySem.W.mg_of X G a35, k35, _, rfl⟩
      rw [if_neg hq] at hx; clear hq
      rw [lookupP] at hx; by_cases hq : x = ("rules_at" : Str)
      · rw [if_pos hq] at hx; cases hx; subst hq; exact ⟨PySem.W.mg_of X G a38, k38, _, rfl⟩
      rw [if_neg hq] at hx; clear hq
      rw [lookupP] at hx; by_cases hq : x = ("above" : Str)
      · rw [if_pos hq] at hx; cases hx; subst hq; exact ⟨PySem.W.mg_of X G a39, k39, _, rfl⟩
      rw [if_neg hq] at hx; clear hq
      rw [lookupP] at hx; by_cases hq : x = ("has_path" : Str)
      · rw [if_pos hq] at hx; cases hx; subst hq; exact ⟨PySem.W.mg_of X G a40, k40, _, rfl⟩
      rw [if_neg hq] at hx; clear hq
      rw [lookupP] at hx; by_cases hq : x = ("fits" : Str)
      · rw [if_pos hq] at hx; cases hx; subst hq; exact ⟨PySem.W.mg_of X G a41, k41, _, rfl⟩
      rw [if_neg hq] at hx; clear hq
      rw [lookupP] at hx; by_cases hq : x = ("is_at" : Str)
      · rw [if_pos hq] at hx; cases hx; subst hq; exact ⟨PySem.W.mg_of X G a42, k42, _, rfl⟩
      rw [if_neg hq] at hx; clear hq
      cases hx
    · intro i fi hi
      have hi : fns[i]? = some fi := hi
      match i, hi with
      | 0, hi => cases hi; exact ⟨b0, rfl⟩
      | 1, hi => cases hi; exact ⟨b1, rfl⟩
      | 2, hi => cases hi; exact ⟨b2, rfl⟩
      | 3, hi => cases hi; exact ⟨b3, rfl⟩
      | 4, hi => cases hi; exact ⟨b4, rfl⟩
      | 5, hi => cases hi; exact ⟨b5, rfl⟩
      | 6, hi => cases hi; exact ⟨b6, rfl⟩
      | 7, hi => cases hi; exact ⟨b7, rfl⟩
      | 8, hi => cases hi; exact ⟨b8, rfl⟩
      | 9, hi => cases hi; exact ⟨b9, rfl⟩
      | 10, hi => cases hi; exact ⟨b10, rfl⟩
      | 11, hi => cases hi; exact ⟨b11, rfl⟩
      | 12, hi => cases hi; exact ⟨b12, rfl⟩
      | 13, hi => cases hi; exact ⟨b13, rfl⟩
      | 14, hi => cases hi; exact ⟨b14, rfl⟩
      | 15, hi => cases hi; exact ⟨b15, rfl⟩
      | 16, hi => cases hi; exact ⟨b16, rfl⟩
      | 17, hi => cases hi; exact ⟨b17, rfl⟩
      | 18, hi => cases hi; exact ⟨b18, rfl⟩
      | 19, hi => cases hi; exact ⟨b19, rfl⟩
      | 20, hi => cases hi; exact ⟨b20, rfl⟩
      | 21, hi => cases hi; exact ⟨b21, rfl⟩
      | 22, hi => cases hi; exact ⟨b22, rfl⟩
      | 23, hi => cases hi; exact ⟨b23, rfl⟩
      | 24, hi => cases hi; exact ⟨b24, rfl⟩
      | 25, hi => cases hi; exact ⟨b25, rfl⟩
      | 26, hi => cases hi; exact ⟨b26, rfl⟩
      | 27, hi => cases hi; exact ⟨b27, rfl⟩
      | 28, hi => cases hi; exact ⟨b28, rfl⟩
      | 29, hi => cases hi; exact ⟨b29, rfl⟩
      | 30, hi => cases hi; exact ⟨b30, rfl⟩
      | 31, hi => cases hi; exact ⟨b31, rfl⟩
      | 32, hi => cases hi; exact ⟨b32, rfl⟩
      | 33, hi => cases hi; exact ⟨b33, rfl⟩
      | 34, hi => cases hi; exact ⟨b34, rfl⟩
      | 35, hi => cases hi; exact ⟨b35, rfl⟩
      | 36, hi => cases hi; exact ⟨b36, rfl⟩
      | 37, hi => cases hi; exact ⟨b37, rfl⟩
      | 38, hi => cases hi; exact ⟨b38, rfl⟩
      | 39, hi => cases hi; exact ⟨b39, rfl⟩
      | 40, hi => cases hi; exact ⟨b40, rfl⟩
      | 41, hi => cases hi; exact ⟨b41, rfl⟩
      | 42, hi => cases hi; exact ⟨b42, rfl⟩
      | i + 43, hi => cases hi
    · intro x d hx
      have hx : List.lookup x [(("ANY" : Str), g_ANY), (("DO" : Str), g_DO), (("LABELS" : Str), g_LABELS), (("LEAF" : Str), g_LEAF), (("MOST_BUILD" : Str), g_MOST_BUILD), (("MOST_BUILD_DEEP" : Str), g_MOST_BUILD_DEEP), (("MOST_DEEP" : Str), g_MOST_DEEP), (("MOST_KIDS" : Str), g_MOST_KIDS), (("MOST_PARTS" : Str), g_MOST_PARTS), (("MOST_PATTERN_DEEP" : Str), g_MOST_PATTERN_DEEP), (("MOST_PLACES" : Str), g_MOST_PLACES), (("MOST_RULES" : Str), g_MOST_RULES), (("MOST_STATE" : Str), g_MOST_STATE), (("MOST_TOLD" : Str), g_MOST_TOLD)] = some d := hx
      rw [lookupP] at hx; by_cases hq : x = ("ANY" : Str)
      · rw [if_pos hq] at hx; cases hx; subst hq
        refine ⟨_, .ref T0, PySem.W.mg_of X G g0, rfl, fun H m => ?_⟩
        rw [Rp]; refine ⟨T0, [.str "any"], rfl, .inr ⟨_, _, _, h0, rfl, rfl, (by show 1 ≤ sizeLine; decide), .cons ⟨t0, rfl⟩ .nil⟩, ?_⟩
        rw [Rps]; exact ⟨_, _, rfl, (by first | (rw [Rp]; done) | (rw [Rp]; rfl)), by rw [Rps]⟩
      rw [if_neg hq] at hx; clear hq
      rw [lookupP] at hx; by_cases hq : x = ("DO" : Str)
      · rw [if_pos hq] at hx; cases hx; subst hq
        exact ⟨_, .str "do", PySem.W.mg_of X G g1, ⟨t1, rfl⟩, fun H m => by first | (rw [Rp]; done) | (rw [Rp]; rfl)⟩
      rw [if_neg hq] at hx; clear hq
      rw [lookupP] at hx; by_cases hq : x = ("LABELS" : Str)
      · rw [if_pos hq] at hx; cases hx; subst hq
        exact ⟨_, .str "abcdef", PySem.W.mg_of X G g2, ⟨t2, rfl⟩, fun H m => by first | (rw [Rp]; done) | (rw [Rp]; rfl)⟩
      rw [if_neg hq] at hx; clear hq
      rw [lookupP] at hx; by_cases hq : x = ("LEAF" : Str)
      · rw [if_pos hq] at hx; cases hx; subst hq
        refine ⟨_, .ref T3, PySem.W.mg_of X G g3, rfl, fun H m => ?_⟩
        rw [Rp]; refine ⟨T3, [.str "leaf"], rfl, .inr ⟨_, _, _, h3, rfl, rfl, (by show 1 ≤ sizeLine; decide), .cons ⟨t3, rfl⟩ .nil⟩, ?_⟩
        rw [Rps]; exact ⟨_, _, rfl, (by first | (rw [Rp]; done) | (rw [Rp]; rfl)), by rw [Rps]⟩
      rw [if_neg hq] at hx; clear hq
      rw [lookupP] at hx; by_cases hq : x = ("MOST_BUILD" : Str)
      · rw [if_pos hq] at hx; cases hx; subst hq
        exact ⟨_, .int 12, PySem.W.mg_of X G g4, ⟨t4, rfl⟩, fun H m => by first | (rw [Rp]; done) | (rw [Rp]; rfl)⟩
      rw [if_neg hq] at hx; clear hq
      rw [lookupP] at hx; by_cases hq : x = ("MOST_BUILD_DEEP" : Str)
      · rw [if_pos hq] at hx; cases hx; subst hq
        exact ⟨_, .int 4, PySem.W.mg_of X G g5, ⟨t5, rfl⟩, fun H m => by first | (rw [Rp]; done) | (rw [Rp]; rfl)⟩
      rw [if_neg hq] at hx; clear hq
      rw [lookupP] at hx; by_cases hq : x = ("MOST_DEEP" : Str)
      · rw [if_pos hq] at hx; cases hx; subst hq
        exact ⟨_, .int 12, PySem.W.mg_of X G g6, ⟨t6, rfl⟩, fun H m => by first | (rw [Rp]; done) | (rw [Rp]; rfl)⟩
      rw [if_neg hq] at hx; clear hq
      rw [lookupP] at hx; by_cases hq : x = ("MOST_KIDS" : Str)
      · rw [if_pos hq] at hx; cases hx; subst hq
        exact ⟨_, .int 3, PySem.W.mg_of X G g7, ⟨t7, rfl⟩, fun H m => by first | (rw [Rp]; done) | (rw [Rp]; rfl)⟩
      rw [if_neg hq] at hx; clear hq
      rw [lookupP] at hx; by_cases hq : x = ("MOST_PARTS" : Str)
      · rw [if_pos hq] at hx; cases hx; subst hq
        exact ⟨_, .int 7, PySem.W.mg_of X G g8, ⟨t8, rfl⟩, fun H m => by first | (rw [Rp]; done) | (rw [Rp]; rfl)⟩
      rw [if_neg hq] at hx; clear hq
      rw [lookupP] at hx; by_cases hq : x = ("MOST_PATTERN_DEEP" : Str)
      · rw [if_pos hq] at hx; cases hx; subst hq
        exact ⟨_, .int 3, PySem.W.mg_of X G g9, ⟨t9, rfl⟩, fun H m => by first | (rw [Rp]; done) | (rw [Rp]; rfl)⟩
      rw [if_neg hq] at hx; clear hq
      rw [lookupP] at hx; by_cases hq : x = ("MOST_PLACES" : Str)
      · rw [if_pos hq] at hx; cases hx; subst hq
        exact ⟨_, .int 60, PySem.W.mg_of X G g10, ⟨t10, rfl⟩, fun H m => by first | (rw [Rp]; done) | (rw [Rp]; rfl)⟩
      rw [if_neg hq] at hx; clear hq
      rw [lookupP] at hx; by_cases hq : x = ("MOST_RULES" : Str)
      · rw [if_pos hq] at hx; cases hx; subst hq
        exact ⟨_, .int 16, PySem.W.mg_of X G g11, ⟨t11, rfl⟩, fun H m => by first | (rw [Rp]; done) | (rw [Rp]; rfl)⟩
      rw [if_neg hq] at hx; clear hq
      rw [lookupP] at hx; by_cases hq : x = ("MOST_STATE" : Str)
      · rw [if_pos hq] at hx; cases hx; subst hq
        exact ⟨_, .int 5, PySem.W.mg_of X G g12, ⟨t12, rfl⟩, fun H m => by first | (rw [Rp]; done) | (rw [Rp]; rfl)⟩
      rw [if_neg hq] at hx; clear hq
      rw [lookupP] at hx; by_cases hq : x = ("MOST_TOLD" : Str)
      · rw [if_pos hq] at hx; cases hx; subst hq
        exact ⟨_, .int 400, PySem.W.mg_of X G g13, ⟨t13, rfl⟩, fun H m => by first | (rw [Rp]; done) | (rw [Rp]; rfl)⟩
      rw [if_neg hq] at hx; clear hq
      cases hx
    · intro x hx
      have hx : x ∈ [("bool" : Str), ("dict" : Str), ("enumerate" : Str), ("int" : Str), ("isinstance" : Str), ("len" : Str), ("list" : Str), ("range" : Str), ("sorted" : Str), ("str" : Str), ("sum" : Str), ("tuple" : Str)] := hx
      simp only [List.mem_cons, List.not_mem_nil, or_false] at hx
      rcases hx with rfl | rfl | rfl | rfl | rfl | rfl | rfl | rfl | rfl | rfl | rfl | rfl
      · exact PySem.W.mg_none_of X G z0
      · exact PySem.W.mg_none_of X G z1
      · exact PySem.W.mg_none_of X G z2
      · exact PySem.W.mg_none_of X G z3
      · exact PySem.W.mg_none_of X G z4
      · exact PySem.W.mg_none_of X G z5
      · exact PySem.W.mg_none_of X G z6
      · exact PySem.W.mg_none_of X G z7
      · exact PySem.W.mg_none_of X G z8
      · exact PySem.W.mg_none_of X G z9
      · exact PySem.W.mg_none_of X G z10
      · exact PySem.W.mg_none_of X G z11
    · intro x c hx
      have hx : List.lookup x [(("Telling" : Str), c_Telling)] = some c := hx
      rw [lookupP] at hx; by_cases hq : x = ("Telling" : Str)
      · rw [if_pos hq] at hx; cases hx; subst hq; exact ⟨PySem.W.mg_of X G aC0, (by show 0 < 1; decide), _, rfl⟩
      rw [if_neg hq] at hx; clear hq
      cases hx
    · intro c hc
      have hc : c < 1 := hc
      match c, hc with
      | 0, _ => exact ⟨pg0, hd0, po0, sa0⟩
      | c + 1, hc => exact absurd hc (by omega)
    · intro c f hc hf
      have hc : c < 1 := hc
      have hf : f ∈ [("known" : Str), ("book" : Str), ("tree" : Str), ("sizes" : Str)] := hf
      simp only [List.mem_cons, List.not_mem_nil, or_false] at hf
      match c, hc with
      | 0, _ =>
        rcases hf with rfl | rfl | rfl | rfl
        · exact n0_0
        · exact n0_1
        · exact n0_2
        · exact n0_3
      | c + 1, hc => exact absurd hc (by omega)
    · intro c f hf
      have hf : ini c = some f := hf
      match c, hf with
      | 0, hf => cases hf; exact ⟨⟨mk0, a26, i26, kc0⟩, _, rfl⟩
      | c + 1, hf => cases hf
    · intro x mi c f hx hc hf
      have hc : c < 1 := hc
      have hx : List.lookup x [(("reach" : Str), m_reach), (("rule" : Str), m_rule), (("parts" : Str), m_parts), (("built" : Str), m_built)] = some mi := hx
      have hf : meth c mi = some f := hf
      rw [lookupP] at hx; by_cases hq : x = ("reach" : Str)
      · rw [if_pos hq] at hx; cases hx; subst hq
        match c, hc, hf with
        | 0, _, hf => cases hf; exact ⟨⟨a27, i27, k27⟩, _, rfl⟩
        | c + 1, hc, _ => exact absurd hc (by omega)
      rw [if_neg hq] at hx; clear hq
      rw [lookupP] at hx; by_cases hq : x = ("rule" : Str)
      · rw [if_pos hq] at hx; cases hx; subst hq
        match c, hc, hf with
        | 0, _, hf => cases hf; exact ⟨⟨a28, i28, k28⟩, _, rfl⟩
        | c + 1, hc, _ => exact absurd hc (by omega)
      rw [if_neg hq] at hx; clear hq
      rw [lookupP] at hx; by_cases hq : x = ("parts" : Str)
      · rw [if_pos hq] at hx; cases hx; subst hq
        match c, hc, hf with
        | 0, _, hf => cases hf; exact ⟨⟨a36, i36, k36⟩, _, rfl⟩
        | c + 1, hc, _ => exact absurd hc (by omega)
      rw [if_neg hq] at hx; clear hq
      rw [lookupP] at hx; by_cases hq : x = ("built" : Str)
      · rw [if_pos hq] at hx; cases hx; subst hq
        match c, hc, hf with
        | 0, _, hf => cases hf; exact ⟨⟨a37, i37, k37⟩, _, rfl⟩
        | c + 1, hc, _ => exact absurd hc (by omega)
      rw [if_neg hq] at hx; clear hq
      cases hx
    · intro x hx
      have hx : some ("_law_told" : Str) = some x := hx
      cases hx
      have FG := fun_mk (st := sx_told) lG cG kG
      have bG := FG.binds (ps := ["_law_work"]) fun _ _ _ _ _ _ us hl => match us, hl with | [_], _ => rfl
      refine told_ok (W := W) (E := fun i => match i with | 0 => Z_BadTree | 1 => Z_BadBook | 2 => Z_BadPlace | 3 => Z_TooBig | 4 => Z_TooMany | 5 => Z_NotKeeping | 6 => Z_BadState | 7 => Z_BadPairs | 8 => Z_BadText | _ => fa) (TA := ZT) (PySem.W.mg_of X G aG) kG lG cG bG scx_told box_told ⟨ndx_told, lox_told, glx_told.1, glx_told.2.1, PySem.W.mg_none_of X G zisi, PySem.W.mg_none_of X G zval, nine ⟨PySem.W.mg_of X G aZ_BadTree, PySem.W.mg_of X G aZ_BadBook, PySem.W.mg_of X G aZ_BadPlace, PySem.W.mg_of X G aZ_TooBig, PySem.W.mg_of X G aZ_TooMany, PySem.W.mg_of X G aZ_NotKeeping, PySem.W.mg_of X G aZ_BadState, PySem.W.mg_of X G aZ_BadPairs, PySem.W.mg_of X G aZ_BadText⟩⟩ glx_told.2.2 (PySem.W.mg_of X G aZT) fun c w fo hw => ?_
      have hw : tw c = some (w, fo) := hw
      match c, hw with
      | 0, hw => cases hw
      | 1, hw =>
        cases hw
        refine ⟨1, EF.tc ⟨gaZ_BadBook, ggZ_BadBook, sbZ_BadBook, hdZ_BadBook, clZ_BadBook, hnZ, htZ, moZ_BadBook, npZ_BadBook, nnZ_BadBook, svZ_BadBook, stZ_BadBook, icZT, tyZT, bZT⟩ (by decide) (nine ⟨kit_ne neZ_BadBook_BadTree icZ_BadTree tyZ_BadTree suZ_BadBook_BadTree, kit_self, kit_ne neZ_BadBook_BadPlace icZ_BadPlace tyZ_BadPlace suZ_BadBook_BadPlace, kit_ne neZ_BadBook_TooBig icZ_TooBig tyZ_TooBig suZ_BadBook_TooBig, kit_ne neZ_BadBook_TooMany icZ_TooMany tyZ_TooMany suZ_BadBook_TooMany, kit_ne neZ_BadBook_NotKeeping icZ_NotKeeping tyZ_NotKeeping suZ_BadBook_NotKeeping, kit_ne neZ_BadBook_BadState icZ_BadState tyZ_BadState suZ_BadBook_BadState, kit_ne neZ_BadBook_BadPairs icZ_BadPairs tyZ_BadPairs suZ_BadBook_BadPairs, kit_ne neZ_BadBook_BadText icZ_BadText tyZ_BadText suZ_BadBook_BadText⟩), by decide +kernel, by decide +kernel⟩
      | 2, hw =>
        cases hw
        refine ⟨0, EF.tc ⟨gaZ_BadTree, ggZ_BadTree, sbZ_BadTree, hdZ_BadTree, clZ_BadTree, hnZ, htZ, moZ_BadTree, npZ_BadTree, nnZ_BadTree, svZ_BadTree, stZ_BadTree, icZT, tyZT, bZT⟩ (by decide) (nine ⟨kit_self, kit_ne neZ_BadTree_BadBook icZ_BadBook tyZ_BadBook suZ_BadTree_BadBook, kit_ne neZ_BadTree_BadPlace icZ_BadPlace tyZ_BadPlace suZ_BadTree_BadPlace, kit_ne neZ_BadTree_TooBig icZ_TooBig tyZ_TooBig suZ_BadTree_TooBig, kit_ne neZ_BadTree_TooMany icZ_TooMany tyZ_TooMany suZ_BadTree_TooMany, kit_ne neZ_BadTree_NotKeeping icZ_NotKeeping tyZ_NotKeeping suZ_BadTree_NotKeeping, kit_ne neZ_BadTree_BadState icZ_BadState tyZ_BadState suZ_BadTree_BadState, kit_ne neZ_BadTree_BadPairs icZ_BadPairs tyZ_BadPairs suZ_BadTree_BadPairs, kit_ne neZ_BadTree_BadText icZ_BadText tyZ_BadText suZ_BadTree_BadText⟩), by decide +kernel, by decide +kernel⟩
      | 3, hw =>
        cases hw
        refine ⟨2, EF.tc ⟨gaZ_BadPlace, ggZ_BadPlace, sbZ_BadPlace, hdZ_BadPlace, clZ_BadPlace, hnZ, htZ, moZ_BadPlace, npZ_BadPlace, nnZ_BadPlace, svZ_BadPlace, stZ_BadPlace, icZT, tyZT, bZT⟩ (by decide) (nine ⟨kit_ne neZ_BadPlace_BadTree icZ_BadTree tyZ_BadTree suZ_BadPlace_BadTree, kit_ne neZ_BadPlace_BadBook icZ_BadBook tyZ_BadBook suZ_BadPlace_BadBook, kit_self, kit_ne neZ_BadPlace_TooBig icZ_TooBig tyZ_TooBig suZ_BadPlace_TooBig, kit_ne neZ_BadPlace_TooMany icZ_TooMany tyZ_TooMany suZ_BadPlace_TooMany, kit_ne neZ_BadPlace_NotKeeping icZ_NotKeeping tyZ_NotKeeping suZ_BadPlace_NotKeeping, kit_ne neZ_BadPlace_BadState icZ_BadState tyZ_BadState suZ_BadPlace_BadState, kit_ne neZ_BadPlace_BadPairs icZ_BadPairs tyZ_BadPairs suZ_BadPlace_BadPairs, kit_ne neZ_BadPlace_BadText icZ_BadText tyZ_BadText suZ_BadPlace_BadText⟩), by decide +kernel, by decide +kernel⟩
      | 4, hw =>
        cases hw
        refine ⟨3, EF.tc ⟨gaZ_TooBig, ggZ_TooBig, sbZ_TooBig, hdZ_TooBig, clZ_TooBig, hnZ, htZ, moZ_TooBig, npZ_TooBig, nnZ_TooBig, svZ_TooBig, stZ_TooBig, icZT, tyZT, bZT⟩ (by decide) (nine ⟨kit_ne neZ_TooBig_BadTree icZ_BadTree tyZ_BadTree suZ_TooBig_BadTree, kit_ne neZ_TooBig_BadBook icZ_BadBook tyZ_BadBook suZ_TooBig_BadBook, kit_ne neZ_TooBig_BadPlace icZ_BadPlace tyZ_BadPlace suZ_TooBig_BadPlace, kit_self, kit_ne neZ_TooBig_TooMany icZ_TooMany tyZ_TooMany suZ_TooBig_TooMany, kit_ne neZ_TooBig_NotKeeping icZ_NotKeeping tyZ_NotKeeping suZ_TooBig_NotKeeping, kit_ne neZ_TooBig_BadState icZ_BadState tyZ_BadState suZ_TooBig_BadState, kit_ne neZ_TooBig_BadPairs icZ_BadPairs tyZ_BadPairs suZ_TooBig_BadPairs, kit_ne neZ_TooBig_BadText icZ_BadText tyZ_BadText suZ_TooBig_BadText⟩), by decide +kernel, by decide +kernel⟩
      | c + 5, hw => cases hw
    · intro x c hx
      have hx : List.lookup x ([(("BadPlace" : Str), c_BadPlace), (("TooBig" : Str), c_TooBig)] : List (Str × Nat)) = some c := hx
      rw [lookupP] at hx; by_cases hq : x = ("BadPlace" : Str)
      · rw [if_pos hq] at hx; cases hx; subst hq; exact ⟨PySem.W.mg_of X G aZ_BadPlace, xPZ_BadPlace, kpZ_BadPlace, sbZ_BadPlace, tyZ_BadPlace⟩
      rw [if_neg hq] at hx; clear hq
      rw [lookupP] at hx; by_cases hq : x = ("TooBig" : Str)
      · rw [if_pos hq] at hx; cases hx; subst hq; exact ⟨PySem.W.mg_of X G aZ_TooBig, xPZ_TooBig, kpZ_TooBig, sbZ_TooBig, tyZ_TooBig⟩
      rw [if_neg hq] at hx; clear hq
      cases hx
    · intro x c f hx
      have hx : List.lookup x ([(("BadBook" : Str), (c_BadBook, n_number)), (("BadTree" : Str), (c_BadTree, n_place))] : List (Str × (Nat × Str))) = some (c, f) := hx
      rw [lookupP] at hx; by_cases hq : x = ("BadBook" : Str)
      · rw [if_pos hq] at hx; cases hx; subst hq
        have FI := fun_mk (st := s_BadBookI) lIZ_BadBook cIZ_BadBook kIZ_BadBook
        have bI := FI.binds (ps := ["self", "number"]) fun _ _ _ _ _ _ us hl => match us, hl with | [_, _], _ => rfl
        have oC : OexC K Z_BadBook := ⟨⟨_, _, _, _, _, _, _, _, _, _, _, _, _, _, _, xLZ_BadBook, by rfl⟩, saZ_BadBook, sbZ_BadBook, tyZ_BadBook, kpZ_BadBook⟩
        refine ⟨PySem.W.mg_of X G aZ_BadBook, oC, fI_BadBook, _, ["self", "number"], aIZ_BadBook, tIZ_BadBook, bI, ?_⟩
        exact ini_ok (b := "TellError") (f := "number") FI sc_BadBookI ck_BadBookI (.inl (by decide +kernel)) (.inl (by decide +kernel)) (by decide +kernel) (by decide) (by decide) (by decide) (by decide) (by decide) (PySem.W.mg_of X G aZT) spZT rdZT fiZT oC nnZ_BadBook
      rw [if_neg hq] at hx; clear hq
      rw [lookupP] at hx; by_cases hq : x = ("BadTree" : Str)
      · rw [if_pos hq] at hx; cases hx; subst hq
        have FI := fun_mk (st := s_BadTreeI) lIZ_BadTree cIZ_BadTree kIZ_BadTree
        have bI := FI.binds (ps := ["self", "place"]) fun _ _ _ _ _ _ us hl => match us, hl with | [_, _], _ => rfl
        have oC : OexC K Z_BadTree := ⟨⟨_, _, _, _, _, _, _, _, _, _, _, _, _, _, _, xLZ_BadTree, by rfl⟩, saZ_BadTree, sbZ_BadTree, tyZ_BadTree, kpZ_BadTree⟩
        refine ⟨PySem.W.mg_of X G aZ_BadTree, oC, fI_BadTree, _, ["self", "place"], aIZ_BadTree, tIZ_BadTree, bI, ?_⟩
        exact ini_ok (b := "TellError") (f := "place") FI sc_BadTreeI ck_BadTreeI (.inl (by decide +kernel)) (.inl (by decide +kernel)) (by decide +kernel) (by decide) (by decide) (by decide) (by decide) (by decide) (PySem.W.mg_of X G aZT) spZT rdZT fiZT oC npZ_BadTree
      rw [if_neg hq] at hx; clear hq
      cases hx
  exact law_okL (Z.law_ok (W := W) (lv_all hW hdef kmax) (i := f_law) (fi := ⟨1, 14, b_law, true⟩) rfl rfl hev)
end Law
open PySem PySem.W PyProof.Rows
theorem PySem.Challenge.cw_treetellers_k11_whole_each_part_by_its_r_holds : PySem.Challenge.rw_treetellers_k11_whole_each_part_by_its_r.Holds := by
  w_on; o_law; k_head; (case hw => w_witness2)
  k_fill
  refine Z.walk_tabs (l := PySem.Challenge.rw_treetellers_k11_whole_each_part_by_its_r) (n := 63) (k := 2 * Law.KMAX + 1) (x := "_law_script") rfl (by decide) rfl ⟨rfl, by decide, by decide⟩ (fun w h Y => by first | exact PySem.W.kIn_of Y | exact PySem.W.km_in_of Y) ?F
  case F =>
    intro w mg fa h KX G hmg tabs
    refine' Law.all_mk KX G hmg tabs (by kernel_rfl) (by decide +kernel) ?zq_aC0 ?zq_pg0 ?zq_hd0 ?zq_po0 ?zq_sa0 ?zq_mk0 ?zq_kc0 ?zq_n0_0 ?zq_n0_1 ?zq_n0_2 ?zq_n0_3 ?zq_aZT ?zq_icZT ?zq_tyZT ?zq_bZT ?zq_hnZ ?zq_htZ ?zq_spZT ?zq_rdZT ?zq_fiZT ?zq_aZ_BadTree ?zq_icZ_BadTree ?zq_tyZ_BadTree ?zq_aZ_BadBook ?zq_icZ_BadBook ?zq_tyZ_BadBook ?zq_aZ_BadPlace ?zq_icZ_BadPlace ?zq_tyZ_BadPlace ?zq_aZ_TooBig ?zq_icZ_TooBig ?zq_tyZ_TooBig ?zq_aZ_TooMany ?zq_icZ_TooMany ?zq_tyZ_TooMany ?zq_aZ_NotKeeping ?zq_icZ_NotKeeping ?zq_tyZ_NotKeeping ?zq_aZ_BadState ?zq_icZ_BadState ?zq_tyZ_BadState ?zq_aZ_BadPairs ?zq_icZ_BadPairs ?zq_tyZ_BadPairs ?zq_aZ_BadText ?zq_icZ_BadText ?zq_tyZ_BadText ?zq_gaZ_BadBook ?zq_ggZ_BadBook ?zq_sbZ_BadBook ?zq_hdZ_BadBook ?zq_clZ_BadBook ?zq_moZ_BadBook ?zq_npZ_BadBook ?zq_nnZ_BadBook ?zq_svZ_BadBook ?zq_stZ_BadBook ?zq_kpZ_BadBook ?zq_neZ_BadBook_BadTree ?zq_suZ_BadBook_BadTree ?zq_neZ_BadBook_BadPlace ?zq_suZ_BadBook_BadPlace ?zq_neZ_BadBook_TooBig ?zq_suZ_BadBook_TooBig ?zq_neZ_BadBook_TooMany ?zq_suZ_BadBook_TooMany ?zq_neZ_BadBook_NotKeeping ?zq_suZ_BadBook_NotKeeping ?zq_neZ_BadBook_BadState ?zq_suZ_BadBook_BadState ?zq_neZ_BadBook_BadPairs ?zq_suZ_BadBook_BadPairs ?zq_neZ_BadBook_BadText ?zq_suZ_BadBook_BadText ?zq_gaZ_BadTree ?zq_ggZ_BadTree ?zq_sbZ_BadTree ?zq_hdZ_BadTree ?zq_clZ_BadTree ?zq_moZ_BadTree ?zq_npZ_BadTree ?zq_nnZ_BadTree ?zq_svZ_BadTree ?zq_stZ_BadTree ?zq_kpZ_BadTree ?zq_neZ_BadTree_BadBook ?zq_suZ_BadTree_BadBook ?zq_neZ_BadTree_BadPlace ?zq_suZ_BadTree_BadPlace ?zq_neZ_BadTree_TooBig ?zq_suZ_BadTree_TooBig ?zq_neZ_BadTree_TooMany ?zq_suZ_BadTree_TooMany ?zq_neZ_BadTree_NotKeeping ?zq_suZ_BadTree_NotKeeping ?zq_neZ_BadTree_BadState ?zq_suZ_BadTree_BadState ?zq_neZ_BadTree_BadPairs ?zq_suZ_BadTree_BadPairs ?zq_neZ_BadTree_BadText ?zq_suZ_BadTree_BadText ?zq_gaZ_BadPlace ?zq_ggZ_BadPlace ?zq_sbZ_BadPlace ?zq_hdZ_BadPlace ?zq_clZ_BadPlace ?zq_moZ_BadPlace ?zq_npZ_BadPlace ?zq_nnZ_BadPlace ?zq_svZ_BadPlace ?zq_stZ_BadPlace ?zq_kpZ_BadPlace ?zq_neZ_BadPlace_BadTree ?zq_suZ_BadPlace_BadTree ?zq_neZ_BadPlace_BadBook ?zq_suZ_BadPlace_BadBook ?zq_neZ_BadPlace_TooBig ?zq_suZ_BadPlace_TooBig ?zq_neZ_BadPlace_TooMany ?zq_suZ_BadPlace_TooMany ?zq_neZ_BadPlace_NotKeeping ?zq_suZ_BadPlace_NotKeeping ?zq_neZ_BadPlace_BadState ?zq_suZ_BadPlace_BadState ?zq_neZ_BadPlace_BadPairs ?zq_suZ_BadPlace_BadPairs ?zq_neZ_BadPlace_BadText ?zq_suZ_BadPlace_BadText ?zq_gaZ_TooBig ?zq_ggZ_TooBig ?zq_sbZ_TooBig ?zq_hdZ_TooBig ?zq_clZ_TooBig ?zq_moZ_TooBig ?zq_npZ_TooBig ?zq_nnZ_TooBig ?zq_svZ_TooBig ?zq_stZ_TooBig ?zq_kpZ_TooBig ?zq_neZ_TooBig_BadTree ?zq_suZ_TooBig_BadTree ?zq_neZ_TooBig_BadBook ?zq_suZ_TooBig_BadBook ?zq_neZ_TooBig_BadPlace ?zq_suZ_TooBig_BadPlace ?zq_neZ_TooBig_TooMany ?zq_suZ_TooBig_TooMany ?zq_neZ_TooBig_NotKeeping ?zq_suZ_TooBig_NotKeeping ?zq_neZ_TooBig_BadState ?zq_suZ_TooBig_BadState ?zq_neZ_TooBig_BadPairs ?zq_suZ_TooBig_BadPairs ?zq_neZ_TooBig_BadText ?zq_suZ_TooBig_BadText ?zq_xPZ_BadPlace ?zq_xPZ_TooBig ?zq_xLZ_BadBook ?zq_saZ_BadBook ?zq_aIZ_BadBook ?zq_tIZ_BadBook ?zq_lIZ_BadBook ?zq_cIZ_BadBook ?zq_kIZ_BadBook ?zq_xLZ_BadTree ?zq_saZ_BadTree ?zq_aIZ_BadTree ?zq_tIZ_BadTree ?zq_lIZ_BadTree ?zq_cIZ_BadTree ?zq_kIZ_BadTree ?zq_aG ?zq_lG ?zq_cG ?zq_kG ?zq_zisi ?zq_zval ?zq_a0 ?zq_l0 ?zq_c0 ?zq_k0 ?zq_a1 ?zq_l1 ?zq_c1 ?zq_k1 ?zq_a2 ?zq_l2 ?zq_c2 ?zq_k2 ?zq_a3 ?zq_l3 ?zq_c3 ?zq_k3 ?zq_a4 ?zq_l4 ?zq_c4 ?zq_k4 ?zq_a5 ?zq_l5 ?zq_c5 ?zq_k5 ?zq_a6 ?zq_l6 ?zq_c6 ?zq_k6 ?zq_a7 ?zq_l7 ?zq_c7 ?zq_k7 ?zq_a8 ?zq_l8 ?zq_c8 ?zq_k8 ?zq_a9 ?zq_l9 ?zq_c9 ?zq_k9 ?zq_a10 ?zq_l10 ?zq_c10 ?zq_k10 ?zq_a11 ?zq_l11 ?zq_c11 ?zq_k11 ?zq_a12 ?zq_l12 ?zq_c12 ?zq_k12 ?zq_a13 ?zq_l13 ?zq_c13 ?zq_k13 ?zq_a14 ?zq_l14 ?zq_c14 ?zq_k14 ?zq_a15 ?zq_l15 ?zq_c15 ?zq_k15 ?zq_a16 ?zq_l16 ?zq_c16 ?zq_k16 ?zq_a17 ?zq_l17 ?zq_c17 ?zq_k17 ?zq_a18 ?zq_l18 ?zq_c18 ?zq_k18 ?zq_a19 ?zq_l19 ?zq_c19 ?zq_k19 ?zq_a20 ?zq_l20 ?zq_c20 ?zq_k20 ?zq_a21 ?zq_l21 ?zq_c21 ?zq_k21 ?zq_a22 ?zq_l22 ?zq_c22 ?zq_k22 ?zq_a23 ?zq_l23 ?zq_c23 ?zq_k23 ?zq_a24 ?zq_l24 ?zq_c24 ?zq_k24 ?zq_a25 ?zq_l25 ?zq_c25 ?zq_k25 ?zq_a26 ?zq_i26 ?zq_l26 ?zq_c26 ?zq_k26 ?zq_a27 ?zq_i27 ?zq_l27 ?zq_c27 ?zq_k27 ?zq_a28 ?zq_i28 ?zq_l28 ?zq_c28 ?zq_k28 ?zq_a29 ?zq_l29 ?zq_c29 ?zq_k29 ?zq_a30 ?zq_l30 ?zq_c30 ?zq_k30 ?zq_a31 ?zq_l31 ?zq_c31 ?zq_k31 ?zq_a32 ?zq_l32 ?zq_c32 ?zq_k32 ?zq_a33 ?zq_l33 ?zq_c33 ?zq_k33 ?zq_a34 ?zq_l34 ?zq_c34 ?zq_k34 ?zq_a35 ?zq_l35 ?zq_c35 ?zq_k35 ?zq_a36 ?zq_i36 ?zq_l36 ?zq_c36 ?zq_k36 ?zq_a37 ?zq_i37 ?zq_l37 ?zq_c37 ?zq_k37 ?zq_a38 ?zq_l38 ?zq_c38 ?zq_k38 ?zq_a39 ?zq_l39 ?zq_c39 ?zq_k39 ?zq_a40 ?zq_l40 ?zq_c40 ?zq_k40 ?zq_a41 ?zq_l41 ?zq_c41 ?zq_k41 ?zq_a42 ?zq_l42 ?zq_c42 ?zq_k42 ?zq_rfl_ca0 ?zq_xk0 ?zq_rfl_kw0 ?zq_g0 ?zq_h0 ?zq_g1 ?zq_g2 ?zq_g3 ?zq_h3 ?zq_g4 ?zq_g5 ?zq_g6 ?zq_g7 ?zq_g8 ?zq_g9 ?zq_g10 ?zq_g11 ?zq_g12 ?zq_g13 ?zq_z0 ?zq_z1 ?zq_z2 ?zq_z3 ?zq_z4 ?zq_z5 ?zq_z6 ?zq_z7 ?zq_z8 ?zq_z9 ?zq_z10 ?zq_z11 Law.KMAX Law.FUEL Law.law_ev
    (case zq_aC0 => k_is); (case zq_pg0 => k_is); (case zq_hd0 => k_is); (case zq_po0 => k_is); (case zq_sa0 => k_is); (case zq_mk0 => k_is)
    (case zq_kc0 => k_is); (case zq_n0_0 => k_is); (case zq_n0_1 => k_is); (case zq_n0_2 => k_is); (case zq_n0_3 => k_is); (case zq_aZT => k_is)
    (case zq_icZT => k_is); (case zq_tyZT => k_is); (case zq_bZT => k_is); (case zq_hnZ => k_is); (case zq_htZ => k_is); (case zq_spZT => k_is)
    (case zq_rdZT => k_is); (case zq_fiZT => k_is); (case zq_aZ_BadTree => k_is); (case zq_icZ_BadTree => k_is); (case zq_tyZ_BadTree => k_is); (case zq_aZ_BadBook => k_is)
    (case zq_icZ_BadBook => k_is); (case zq_tyZ_BadBook => k_is); (case zq_aZ_BadPlace => k_is); (case zq_icZ_BadPlace => k_is); (case zq_tyZ_BadPlace => k_is); (case zq_aZ_TooBig => k_is)
    (case zq_icZ_TooBig => k_is); (case zq_tyZ_TooBig => k_is); (case zq_aZ_TooMany => k_is); (case zq_icZ_TooMany => k_is); (case zq_tyZ_TooMany => k_is); (case zq_aZ_NotKeeping => k_is)
    (case zq_icZ_NotKeeping => k_is); (case zq_tyZ_NotKeeping => k_is); (case zq_aZ_BadState => k_is); (case zq_icZ_BadState => k_is); (case zq_tyZ_BadState => k_is); (case zq_aZ_BadPairs => k_is)
    (case zq_icZ_BadPairs => k_is); (case zq_tyZ_BadPairs => k_is); (case zq_aZ_BadText => k_is); (case zq_icZ_BadText => k_is); (case zq_tyZ_BadText => k_is); (case zq_gaZ_BadBook => k_is)
    (case zq_ggZ_BadBook => k_is); (case zq_sbZ_BadBook => k_is); (case zq_hdZ_BadBook => k_is); (case zq_clZ_BadBook => k_is); (case zq_moZ_BadBook => k_is); (case zq_npZ_BadBook => k_is)
    (case zq_nnZ_BadBook => k_is); (case zq_svZ_BadBook => k_is); (case zq_stZ_BadBook => k_is); (case zq_kpZ_BadBook => k_is); (case zq_neZ_BadBook_BadTree => decide); (case zq_suZ_BadBook_BadTree => k_is)
    (case zq_neZ_BadBook_BadPlace => decide); (case zq_suZ_BadBook_BadPlace => k_is); (case zq_neZ_BadBook_TooBig => decide); (case zq_suZ_BadBook_TooBig => k_is); (case zq_neZ_BadBook_TooMany => decide); (case zq_suZ_BadBook_TooMany => k_is)
    (case zq_neZ_BadBook_NotKeeping => decide); (case zq_suZ_BadBook_NotKeeping => k_is); (case zq_neZ_BadBook_BadState => decide); (case zq_suZ_BadBook_BadState => k_is); (case zq_neZ_BadBook_BadPairs => decide); (case zq_suZ_BadBook_BadPairs => k_is)
    (case zq_neZ_BadBook_BadText => decide); (case zq_suZ_BadBook_BadText => k_is); (case zq_gaZ_BadTree => k_is); (case zq_ggZ_BadTree => k_is); (case zq_sbZ_BadTree => k_is); (case zq_hdZ_BadTree => k_is)
    (case zq_clZ_BadTree => k_is); (case zq_moZ_BadTree => k_is); (case zq_npZ_BadTree => k_is); (case zq_nnZ_BadTree => k_is); (case zq_svZ_BadTree => k_is); (case zq_stZ_BadTree => k_is)
    (case zq_kpZ_BadTree => k_is); (case zq_neZ_BadTree_BadBook => decide); (case zq_suZ_BadTree_BadBook => k_is); (case zq_neZ_BadTree_BadPlace => decide); (case zq_suZ_BadTree_BadPlace => k_is); (case zq_neZ_BadTree_TooBig => decide)
    (case zq_suZ_BadTree_TooBig => k_is); (case zq_neZ_BadTree_TooMany => decide); (case zq_suZ_BadTree_TooMany => k_is); (case zq_neZ_BadTree_NotKeeping => decide); (case zq_suZ_BadTree_NotKeeping => k_is); (case zq_neZ_BadTree_BadState => decide)
    (case zq_suZ_BadTree_BadState => k_is); (case zq_neZ_BadTree_BadPairs => decide); (case zq_suZ_BadTree_BadPairs => k_is); (case zq_neZ_BadTree_BadText => decide); (case zq_suZ_BadTree_BadText => k_is); (case zq_gaZ_BadPlace => k_is)
    (case zq_ggZ_BadPlace => k_is); (case zq_sbZ_BadPlace => k_is); (case zq_hdZ_BadPlace => k_is); (case zq_clZ_BadPlace => k_is); (case zq_moZ_BadPlace => k_is); (case zq_npZ_BadPlace => k_is)
    (case zq_nnZ_BadPlace => k_is); (case zq_svZ_BadPlace => k_is); (case zq_stZ_BadPlace => k_is); (case zq_kpZ_BadPlace => k_is); (case zq_neZ_BadPlace_BadTree => decide); (case zq_suZ_BadPlace_BadTree => k_is)
    (case zq_neZ_BadPlace_BadBook => decide); (case zq_suZ_BadPlace_BadBook => k_is); (case zq_neZ_BadPlace_TooBig => decide); (case zq_suZ_BadPlace_TooBig => k_is); (case zq_neZ_BadPlace_TooMany => decide); (case zq_suZ_BadPlace_TooMany => k_is)
    (case zq_neZ_BadPlace_NotKeeping => decide); (case zq_suZ_BadPlace_NotKeeping => k_is); (case zq_neZ_BadPlace_BadState => decide); (case zq_suZ_BadPlace_BadState => k_is); (case zq_neZ_BadPlace_BadPairs => decide); (case zq_suZ_BadPlace_BadPairs => k_is)
    (case zq_neZ_BadPlace_BadText => decide); (case zq_suZ_BadPlace_BadText => k_is); (case zq_gaZ_TooBig => k_is); (case zq_ggZ_TooBig => k_is); (case zq_sbZ_TooBig => k_is); (case zq_hdZ_TooBig => k_is)
    (case zq_clZ_TooBig => k_is); (case zq_moZ_TooBig => k_is); (case zq_npZ_TooBig => k_is); (case zq_nnZ_TooBig => k_is); (case zq_svZ_TooBig => k_is); (case zq_stZ_TooBig => k_is)
    (case zq_kpZ_TooBig => k_is); (case zq_neZ_TooBig_BadTree => decide); (case zq_suZ_TooBig_BadTree => k_is); (case zq_neZ_TooBig_BadBook => decide); (case zq_suZ_TooBig_BadBook => k_is); (case zq_neZ_TooBig_BadPlace => decide)
    (case zq_suZ_TooBig_BadPlace => k_is); (case zq_neZ_TooBig_TooMany => decide); (case zq_suZ_TooBig_TooMany => k_is); (case zq_neZ_TooBig_NotKeeping => decide); (case zq_suZ_TooBig_NotKeeping => k_is); (case zq_neZ_TooBig_BadState => decide)
    (case zq_suZ_TooBig_BadState => k_is); (case zq_neZ_TooBig_BadPairs => decide); (case zq_suZ_TooBig_BadPairs => k_is); (case zq_neZ_TooBig_BadText => decide); (case zq_suZ_TooBig_BadText => k_is); (case zq_xPZ_BadPlace => k_exc)
    (case zq_xPZ_TooBig => k_exc); (case zq_xLZ_BadBook => k_is); (case zq_saZ_BadBook => k_is); (case zq_aIZ_BadBook => k_is); (case zq_tIZ_BadBook => k_is); (case zq_lIZ_BadBook => k_is)
    (case zq_cIZ_BadBook => k_is); (case zq_kIZ_BadBook => k_is); (case zq_xLZ_BadTree => k_is); (case zq_saZ_BadTree => k_is); (case zq_aIZ_BadTree => k_is); (case zq_tIZ_BadTree => k_is)
    (case zq_lIZ_BadTree => k_is); (case zq_cIZ_BadTree => k_is); (case zq_kIZ_BadTree => k_is); (case zq_aG => k_is); (case zq_lG => k_is); (case zq_cG => k_is)
    (case zq_kG => k_is); (case zq_zisi => k_is); (case zq_zval => k_is); (case zq_a0 => k_is); (case zq_l0 => k_is); (case zq_c0 => k_is)
    (case zq_k0 => k_is); (case zq_a1 => k_is); (case zq_l1 => k_is); (case zq_c1 => k_is); (case zq_k1 => k_is); (case zq_a2 => k_is)
    (case zq_l2 => k_is); (case zq_c2 => k_is); (case zq_k2 => k_is); (case zq_a3 => k_is); (case zq_l3 => k_is); (case zq_c3 => k_is)
    (case zq_k3 => k_is); (case zq_a4 => k_is); (case zq_l4 => k_is); (case zq_c4 => k_is); (case zq_k4 => k_is); (case zq_a5 => k_is)
    (case zq_l5 => k_is); (case zq_c5 => k_is); (case zq_k5 => k_is); (case zq_a6 => k_is); (case zq_l6 => k_is); (case zq_c6 => k_is)
    (case zq_k6 => k_is); (case zq_a7 => k_is); (case zq_l7 => k_is); (case zq_c7 => k_is); (case zq_k7 => k_is); (case zq_a8 => k_is)
    (case zq_l8 => k_is); (case zq_c8 => k_is); (case zq_k8 => k_is); (case zq_a9 => k_is); (case zq_l9 => k_is); (case zq_c9 => k_is)
    (case zq_k9 => k_is); (case zq_a10 => k_is); (case zq_l10 => k_is); (case zq_c10 => k_is); (case zq_k10 => k_is); (case zq_a11 => k_is)
    (case zq_l11 => k_is); (case zq_c11 => k_is); (case zq_k11 => k_is); (case zq_a12 => k_is); (case zq_l12 => k_is); (case zq_c12 => k_is)
    (case zq_k12 => k_is); (case zq_a13 => k_is); (case zq_l13 => k_is); (case zq_c13 => k_is); (case zq_k13 => k_is); (case zq_a14 => k_is)
    (case zq_l14 => k_is); (case zq_c14 => k_is); (case zq_k14 => k_is); (case zq_a15 => k_is); (case zq_l15 => k_is); (case zq_c15 => k_is)
    (case zq_k15 => k_is); (case zq_a16 => k_is); (case zq_l16 => k_is); (case zq_c16 => k_is); (case zq_k16 => k_is); (case zq_a17 => k_is)
    (case zq_l17 => k_is); (case zq_c17 => k_is); (case zq_k17 => k_is); (case zq_a18 => k_is); (case zq_l18 => k_is); (case zq_c18 => k_is)
    (case zq_k18 => k_is); (case zq_a19 => k_is); (case zq_l19 => k_is); (case zq_c19 => k_is); (case zq_k19 => k_is); (case zq_a20 => k_is)
    (case zq_l20 => k_is); (case zq_c20 => k_is); (case zq_k20 => k_is); (case zq_a21 => k_is); (case zq_l21 => k_is); (case zq_c21 => k_is)
    (case zq_k21 => k_is); (case zq_a22 => k_is); (case zq_l22 => k_is); (case zq_c22 => k_is); (case zq_k22 => k_is); (case zq_a23 => k_is)
    (case zq_l23 => k_is); (case zq_c23 => k_is); (case zq_k23 => k_is); (case zq_a24 => k_is); (case zq_l24 => k_is); (case zq_c24 => k_is)
    (case zq_k24 => k_is); (case zq_a25 => k_is); (case zq_l25 => k_is); (case zq_c25 => k_is); (case zq_k25 => k_is); (case zq_a26 => k_is)
    (case zq_i26 => k_is); (case zq_l26 => k_is); (case zq_c26 => k_is); (case zq_k26 => k_is); (case zq_a27 => k_is); (case zq_i27 => k_is)
    (case zq_l27 => k_is); (case zq_c27 => k_is); (case zq_k27 => k_is); (case zq_a28 => k_is); (case zq_i28 => k_is); (case zq_l28 => k_is)
    (case zq_c28 => k_is); (case zq_k28 => k_is); (case zq_a29 => k_is); (case zq_l29 => k_is); (case zq_c29 => k_is); (case zq_k29 => k_is)
    (case zq_a30 => k_is); (case zq_l30 => k_is); (case zq_c30 => k_is); (case zq_k30 => k_is); (case zq_a31 => k_is); (case zq_l31 => k_is)
    (case zq_c31 => k_is); (case zq_k31 => k_is); (case zq_a32 => k_is); (case zq_l32 => k_is); (case zq_c32 => k_is); (case zq_k32 => k_is)
    (case zq_a33 => k_is); (case zq_l33 => k_is); (case zq_c33 => k_is); (case zq_k33 => k_is); (case zq_a34 => k_is); (case zq_l34 => k_is)
    (case zq_c34 => k_is); (case zq_k34 => k_is); (case zq_a35 => k_is); (case zq_l35 => k_is); (case zq_c35 => k_is); (case zq_k35 => k_is)
    (case zq_a36 => k_is); (case zq_i36 => k_is); (case zq_l36 => k_is); (case zq_c36 => k_is); (case zq_k36 => k_is); (case zq_a37 => k_is)
    (case zq_i37 => k_is); (case zq_l37 => k_is); (case zq_c37 => k_is); (case zq_k37 => k_is); (case zq_a38 => k_is); (case zq_l38 => k_is)
    (case zq_c38 => k_is); (case zq_k38 => k_is); (case zq_a39 => k_is); (case zq_l39 => k_is); (case zq_c39 => k_is); (case zq_k39 => k_is)
    (case zq_a40 => k_is); (case zq_l40 => k_is); (case zq_c40 => k_is); (case zq_k40 => k_is); (case zq_a41 => k_is); (case zq_l41 => k_is)
    (case zq_c41 => k_is); (case zq_k41 => k_is); (case zq_a42 => k_is); (case zq_l42 => k_is); (case zq_c42 => k_is); (case zq_k42 => k_is)
    (case zq_rfl_ca0 => rfl); (case zq_xk0 => k_is); (case zq_rfl_kw0 => rfl); (case zq_g0 => k_is); (case zq_h0 => k_is); (case zq_g1 => k_is)
    (case zq_g2 => k_is); (case zq_g3 => k_is); (case zq_h3 => k_is); (case zq_g4 => k_is); (case zq_g5 => k_is); (case zq_g6 => k_is)
    (case zq_g7 => k_is); (case zq_g8 => k_is); (case zq_g9 => k_is); (case zq_g10 => k_is); (case zq_g11 => k_is); (case zq_g12 => k_is)
    (case zq_g13 => k_is); (case zq_z0 => k_is); (case zq_z1 => k_is); (case zq_z2 => k_is); (case zq_z3 => k_is); (case zq_z4 => k_is)
    (case zq_z5 => k_is); (case zq_z6 => k_is); (case zq_z7 => k_is); (case zq_z8 => k_is); (case zq_z9 => k_is); (case zq_z10 => k_is)
    (case zq_z11 => k_is)
