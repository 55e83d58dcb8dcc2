import PyProof.Rows.All
import Wide.All
import OpenK.AllK
import Wide.FinOn
import HandS.ForMost
import HandS.ForExc
import HandS.TupAny
import HandS.TupMul
import HandS.Style
import HandS.IsInst
import HandS.Deep
import HandS.Conv
import HandS.Lambda
import HandS.Codes
import HandS.RaiseMore
import PyProof.ListStr
import HandS.Iter
import KE.KDictKeyed
import KE.KDictWalk
import PyProof.Rows.TupTab
import PyProof.AutoSeq1
import PyProof.SliceStr2
import KE.KRevSl
import HandS.ExcInit
import HandS.ExcOwn
import HandS.WordsExc
import HandS.SetFor
import HandS.ExcIs
import HandS.ExcField
import KE.KExcIs
import HandS.EndTab
import PySem.Challenge.RW_treetellers_k20_texts_of_no_tree
set_option Elab.async false
set_option linter.all false
set_option maxRecDepth 100000
set_option maxHeartbeats 4000000
/-! Z: a small evaluator of a part of Python over data, and (behind) that the machine does what it says. -/
namespace Z
open PySem L2

/-! ### data -/
abbrev Tx := List Nat
def sOf (x : Tx) : Str := Str.mk x.toArray
inductive D where
  | non | bl (b : Bool) | int (i : Int) | str (x : Tx) | tup (xs : List D) | loc (n : Nat)
  /-- a list that stays as it is (the script) -/
  | fl (xs : List D)
mutual
def D.beq : D → D → Bool
  | .non, .non => true
  | .bl a, .bl b => a == b
  | .int a, .int b => a == b
  | .str a, .str b => a == b
  | .tup a, .tup b => D.beqs a b
  | .loc a, .loc b => a == b
  | .fl a, .fl b => D.beqs a b
  | _, _ => false
def D.beqs : List D → List D → Bool
  | [], [] => true
  | x :: xs, y :: ys => D.beq x y && D.beqs xs ys
  | _, _ => false
end
mutual
theorem D.eq_of : ∀ a b : D, D.beq a b = true → a = b
  | .non, b, h => by cases b <;> simp_all [D.beq]
  | .bl x, b, h => by cases b <;> simp_all [D.beq]
  | .int x, b, h => by cases b <;> simp_all [D.beq]
  | .str x, b, h => by cases b <;> simp_all [D.beq]
  | .tup xs, b, h => by
    cases b with
    | tup ys => rw [D.beq] at h; rw [D.eqs_of xs ys h]
    | _ => simp [D.beq] at h
  | .loc x, b, h => by cases b <;> simp_all [D.beq]
  | .fl xs, b, h => by
    cases b with
    | fl ys => rw [D.beq] at h; rw [D.eqs_of xs ys h]
    | _ => simp [D.beq] at h
theorem D.eqs_of : ∀ a b : List D, D.beqs a b = true → a = b
  | [], [], _ => rfl
  | [], _ :: _, h => by simp [D.beqs] at h
  | _ :: _, [], h => by simp [D.beqs] at h
  | x :: xs, y :: ys, h => by
    rw [D.beqs, Bool.and_eq_true] at h
    rw [D.eq_of x y h.1, D.eqs_of xs ys h.2]
end
mutual
theorem D.beq_rf : ∀ a : D, D.beq a a = true
  | .non => rfl
  | .bl x => by simp [D.beq]
  | .int x => by simp [D.beq]
  | .str x => by simp [D.beq]
  | .tup xs => by rw [D.beq]; exact D.beqs_rf xs
  | .loc x => by simp [D.beq]
  | .fl xs => by rw [D.beq]; exact D.beqs_rf xs
theorem D.beqs_rf : ∀ a : List D, D.beqs a a = true
  | [] => rfl
  | x :: xs => by rw [D.beqs, D.beq_rf x, D.beqs_rf xs]; rfl
end
instance : DecidableEq D := fun a b => if h : D.beq a b = true then isTrue (D.eq_of a b h) else isFalse fun e => h (by rw [e]; exact D.beq_rf b)

/-- a thing that may change -/
inductive Cell where
  | lst (xs : List D) | ins (c : Nat) (fs : List (Str × D))
  /-- a dict whose keys are tuples; one whose keys are ints and texts -/
  | dct (kvs : List (D × D)) | dck (kvs : List (D × D))
deriving DecidableEq
abbrev Sto := List Cell
abbrev Env := List (Option D)
/-- an exception -/
structure Ex where
  c : Nat
  f : Option (Str × D)
inductive R (α : Type) where
  | ok (a : α) (st : Sto) | exc (e : Ex) (st : Sto) | stuck
def R.bind {α β : Type} : R α → (α → Sto → R β) → R β
  | .ok a st, f => f a st
  | .exc e st, _ => .exc e st
  | .stuck, _ => .stuck
/-- an exception is not carried -/
def R.noex {α : Type} : R α → R α
  | .ok a st => .ok a st
  | _ => .stuck

/-! ### what the pieces of the text are -/
inductive BOp where | add | sub | mul | fdiv | mod
deriving DecidableEq
inductive COp where | eq | ne | lt | le | gt | ge | isN | notN | mem | nmem
deriving DecidableEq
inductive Kd where | bool | int | str | tup | lst
deriving DecidableEq
inductive Bi where | len | int | list | tuple | str | sum
deriving DecidableEq
inductive Me where | append | pop | extend | join | clear | index | split
deriving DecidableEq
inductive IT where | name (i : Nat) | tup (is : List Nat)
mutual
inductive IE where
  | var (i : Nat) | cst (d : D) | gl (d : D)
  | tup (es : IEs) | lst (es : IEs)
  | bin (o : BOp) (a b : IE) | cmp (o : COp) (a b : IE)
  | and (a b : IE) | or (a b : IE) | not (a : IE) | ite (c a b : IE)
  | ix (a i : IE) | sl (a : IE) (lo hi : IO) | rev (a : IE)
  | fld (a : IE) (f : Str) | isi (a : IE) (k : Kd) | bi (b : Bi) (a : IE)
  | call (f : Nat) (es : IEs) | mk (c : Nat) (es : IEs)
  | me0 (m : Me) (a : IE) | me1 (m : Me) (a b : IE) | om (x : Str) (m : Nat) (a : IE) (es : IEs)
  | comp (e : IE) (t : IT) (own : List Nat) (it : II) (c : IO)
  | told (e : IE) | mn2 (mx : Bool) (a b : IE)
  | dnew (t : Bool) | cch (o o' : COp) (a b c : IE) | lrng1 (a : IE) | lrng2 (a b : IE)
inductive IEs where
  | nil | cons (e : IE) (r : IEs)
inductive IO where
  | none | some (e : IE)
inductive II where
  | it (e : IE) | rng1 (e : IE) | rng2 (a b : IE) | enum (e : IE)
end
mutual
inductive IS where
  | asg (t : IT) (e : IE) | setf (a : IE) (f : Str) (e : IE) | seti (a i e : IE)
  | expr (e : IE) | ret (e : IE) | retN | pass | brk | cont
  | ite (c : IE) (a b : ISs) | whl (c : IE) (b : ISs) | for_ (t : IT) (it : II) (b : ISs)
  | tryN (b : ISs) | rais0 (c : Nat) | rais1 (c : Nat) (f : Str) (e : IE)
  | never
inductive ISs where
  | nil | cons (s : IS) (r : ISs)
end

/-! ### what they do -/
/-- the functions that may be called: a def, a class's making (its __init__), a class's method -/
def putF' (f : Str) (v : D) : List (Str × D) → List (Str × D)
  | [] => [(f, v)]
  | (g, u) :: r => if g = f then (g, v) :: r else (g, u) :: putF' f v r
structure Cl where
  call : Nat → List D → Sto → R D
  /-- the word that tells of an exception, and the field that it tells, too -/
  tw : Nat → Option (Tx × Option Str)
  ini : Nat → Option Nat
  meth : Nat → Nat → Option Nat

def LIM : Nat := 100000
mutual
def toPW (f : Nat → Option PyData) : D → Option PyData
  | .non => some .none
  | .bl b => some (.bool b)
  | .int i => some (.int i)
  | .str x => some (.str (sOf x))
  | .tup xs => match toPWs f xs with | some ps => some (.tuple ps) | none => none
  | .loc k => f k
  | .fl _ => none
def toPWs (f : Nat → Option PyData) : List D → Option (List PyData)
  | [] => some []
  | x :: xs => match toPW f x, toPWs f xs with | some p, some ps => some (p :: ps) | _, _ => none
end
/-- as plain data; lists n deep are seen through -/
def toP (st : Sto) : Nat → D → Option PyData
  | 0 => toPW fun _ => none
  | n + 1 => toPW fun k => match st[k]? with
    | some (.lst xs) => (match toPWs (fun k => toP st n (.loc k)) xs with | some ps => some (.list ps) | none => none)
    | _ => none
mutual
/-- as a key -/
def nkD : D → Option NestedKey
  | .non => some .none
  | .int i => some (.num i)
  | .str x => some (.text (sOf x))
  | .tup ds => (match nkDs ds with | some ks => some (.tup ks) | none => none)
  | _ => none
def nkDs : List D → Option (List NestedKey)
  | [] => some []
  | d :: ds => match nkD d, nkDs ds with | some k, some ks => some (k :: ks) | _, _ => none
end
def keyT (d : D) : Bool := match d with
  | .tup _ => (match nkD d with | some k => decide (k.depth ≤ 8) | none => false)
  | _ => false
def keyK : D → Bool
  | .int _ => true | .str _ => true
  | _ => false
def dGet (kvs : List (D × D)) (k : D) : Option D := (kvs.find? fun p => decide (p.1 = k)).map (·.2)
def dPut (kvs : List (D × D)) (k v : D) : List (D × D) := if (dGet kvs k).isSome = true then kvs.map fun p => if p.1 = k then (p.1, v) else p else kvs ++ [(k, v)]
def eqG (st : Sto) (a b : D) : Option Bool := match toP st 2 a, toP st 2 b with
  | some p, some q => if p.canLay0 = true ∧ q.canLay0 = true ∧ min p.depth q.depth ≤ 64 then some (PyData.eqv p q) else none
  | _, _ => none
def eqD (st : Sto) (a b : D) : Option Bool := match a, b with
  | .int i, .int j => some (decide (i = j))
  | .str i, .str j => some (decide (i = j))
  | .bl i, .bl j => some (decide (i = j))
  | .tup xs, .tup [] => some xs.isEmpty
  | .loc n, .loc k => (match st[n]?, st[k]? with
    | some (.lst xs), some (.lst []) => some xs.isEmpty
    | _, _ => eqG st (.loc n) (.loc k))
  | a, b => eqG st a b
/-- the items of a list or a tuple -/
def seqD (st : Sto) : D → Option (List D)
  | .tup xs => some xs
  | .loc n => (match st[n]? with | some (.lst xs) => some xs | _ => none)
  | .fl xs => some xs
  | _ => none
/-- the items of a list -/
def lstD (st : Sto) : D → Option (List D)
  | .loc n => (match st[n]? with | some (.lst xs) => some xs | _ => none)
  | .fl xs => some xs
  | _ => none
def ofO {α : Type} (st : Sto) : Option α → R α
  | some a => .ok a st
  | none => .stuck

def binD (o : BOp) (a b : D) (st : Sto) : R D := match o, a, b with
  | .add, .int i, .int j => .ok (.int (i + j)) st
  | .add, .str x, .str y => if x.length + y.length ≤ LIM then .ok (.str (x ++ y)) st else .stuck
  | .add, .tup x, .tup y => if x.length + y.length ≤ LIM then .ok (.tup (x ++ y)) st else .stuck
  | .add, .loc l, .loc k => (match st[l]?, st[k]? with
    | some (.lst x), some (.lst y) => if x.length + y.length ≤ LIM then .ok (.loc st.length) (st ++ [.lst (x ++ y)]) else .stuck
    | _, _ => .stuck)
  | .sub, .int i, .int j => .ok (.int (i - j)) st
  | .mul, .int i, .int j => if (-(2 ^ 64) < i ∧ i < 2 ^ 64) ∨ (-(2 ^ 64) < j ∧ j < 2 ^ 64) then .ok (.int (i * j)) st else .stuck
  | .mul, .str x, .int k => if x ≠ [] ∧ 2 ≤ k ∧ k ≤ 1000 ∧ x.length ≤ 100 then .ok (.str (List.replicate k.toNat x).flatten) st else .stuck
  | .mul, .tup xs, .int k => if xs ≠ [] ∧ 2 ≤ k ∧ k ≤ 1000 ∧ xs.length ≤ 1000 then .ok (.tup (List.replicate k.toNat xs).flatten) st else .stuck
  | .fdiv, .int i, .int j => if 0 < j ∧ j < 1073741824 then .ok (.int (i / j)) st else .stuck
  | .mod, .int i, .int j => if 0 < j then .ok (.int (i % j)) st else .stuck
  | _, _, _ => .stuck
/-- whether an equal one is among them -/
def memS (st : Sto) (a : D) (xs : List D) : Option Bool := match toP st 2 a, toP st 2 (.tup xs) with
  | some p, some (.tuple ps) => if SeqAt.shaped p = true ∧ SeqAt.shaped (.tuple ps) = true then some (ps.any fun z => PyData.eqv z p) else none
  | _, _ => none
def memD (st : Sto) (a b : D) : Option Bool := match b with
  | .str y => (match a with | .str [c] => some (decide (c ∈ y)) | _ => none)
  | .tup xs => memS st a xs
  | .loc n => (match st[n]? with
    | some (.lst xs) => memS st a xs
    | some (.dct kvs) => if keyT a = true then some (dGet kvs a).isSome else none
    | some (.dck kvs) => if keyK a = true then some (dGet kvs a).isSome else none
    | _ => none)
  | _ => none
def cmpD (o : COp) (a b : D) (st : Sto) : R D := match o with
  | .eq => (ofO st (eqD st a b)).bind fun r st => .ok (.bl r) st
  | .ne => (ofO st (eqD st a b)).bind fun r st => .ok (.bl (!r)) st
  | .lt => (match a, b with | .int i, .int j => .ok (.bl (decide (i < j))) st | _, _ => .stuck)
  | .le => (match a, b with | .int i, .int j => .ok (.bl (decide (i ≤ j))) st | _, _ => .stuck)
  | .gt => (match a, b with | .int i, .int j => .ok (.bl (decide (j < i))) st | _, _ => .stuck)
  | .ge => (match a, b with | .int i, .int j => .ok (.bl (decide (j ≤ i))) st | _, _ => .stuck)
  | .isN => (match b with | .non => .ok (.bl (decide (a = .non))) st | _ => .stuck)
  | .notN => (match b with | .non => .ok (.bl (!decide (a = .non))) st | _ => .stuck)
  | .mem => (ofO st (memD st a b)).bind fun r st => .ok (.bl r) st
  | .nmem => (ofO st (memD st a b)).bind fun r st => .ok (.bl (!r)) st
def ixS (a i : D) (st : Sto) : R D := match i with
  | .int i => (match a with
    | .str x => if x.length ≤ LIM then (ofO st (atI x i)).bind fun c st => .ok (.str [c]) st else .stuck
    | a => (ofO st (seqD st a)).bind fun xs st => ofO st (atI xs i))
  | _ => .stuck
def ixD (a i : D) (st : Sto) : R D := match a with
  | .loc n => (match st[n]? with
    | some (.dct kvs) => if keyT i = true then ofO st (dGet kvs i) else .stuck
    | some (.dck kvs) => if keyK i = true then ofO st (dGet kvs i) else .stuck
    | _ => ixS (.loc n) i st)
  | a => ixS a i st
def cutD {α : Type} (xs : List α) (lo hi : Option Int) : List α := (xs.drop (HT.sIx xs.length 0 lo)).take (HT.sIx xs.length xs.length hi - HT.sIx xs.length 0 lo)
def slD (a : D) (lo hi : Option Int) (st : Sto) : R D := match a with
  | .str x => if x.length ≤ LIM then .ok (.str (cutD x lo hi)) st else .stuck
  | .tup xs => .ok (.tup (cutD xs lo hi)) st
  | a => (ofO st (lstD st a)).bind fun xs st => .ok (.loc st.length) (st ++ [.lst (cutD xs lo hi)])
def revD (a : D) (st : Sto) : R D := match a with
  | .tup xs => .ok (.tup xs.reverse) st
  | .str x => if x.length ≤ LIM then .ok (.str x.reverse) st else .stuck
  | a => (ofO st (lstD st a)).bind fun xs st => .ok (.loc st.length) (st ++ [.lst xs.reverse])
def fldD (a : D) (f : Str) (st : Sto) : R D := match a with
  | .loc n => (match st[n]? with | some (.ins _ fs) => ofO st (fs.lookup f) | _ => .stuck)
  | _ => .stuck
def kindD (st : Sto) : D → Option (Option Kd)
  | .non => some none
  | .bl _ => some (some .bool)
  | .int _ => some (some .int)
  | .str _ => some (some .str)
  | .tup _ => some (some .tup)
  | .loc n => (match st[n]? with | some (.lst _) => some (some .lst) | _ => none)
  | .fl _ => none
def isiD (a : D) (k : Kd) (st : Sto) : R D := (ofO st (kindD st a)).bind fun t st => .ok (.bl (decide (t = some k ∨ (t = some .bool ∧ k = .int)))) st
def intsD : List D → Option (List Int)
  | [] => some []
  | .int i :: r => (match intsD r with | some l => some (i :: l) | none => none)
  | _ => none
def strsD : List D → Option (List Tx)
  | [] => some []
  | .str i :: r => (match strsD r with | some l => some (i :: l) | none => none)
  | _ => none
def digitT (x : Tx) : Option Int := match x with
  | [c] => if 48 ≤ c ∧ c ≤ 57 then some ((c : Int) - 48) else none
  | _ => none
def biD (b : Bi) (a : D) (st : Sto) : R D := match b with
  | .len => (match a with
    | .str x => if x.length ≤ LIM then .ok (.int x.length) st else .stuck
    | a => (ofO st (seqD st a)).bind fun xs st => .ok (.int xs.length) st)
  | .int => (match a with
    | .int i => .ok (.int i) st
    | .bl k => .ok (.int (if k then 1 else 0)) st
    | .str x => (ofO st (digitT x)).bind fun i st => .ok (.int i) st
    | _ => .stuck)
  | .list => (match a with
    | .str x => if x.length ≤ LIM then .ok (.loc st.length) (st ++ [.lst (x.map fun c => D.str [c])]) else .stuck
    | a => (ofO st (seqD st a)).bind fun xs st => .ok (.loc st.length) (st ++ [.lst xs]))
  | .tuple => (ofO st (seqD st a)).bind fun xs st => .ok (.tup xs) st
  | .str => (match a with
    | .int i => if 0 ≤ i ∧ i < 10 then .ok (.str [48 + i.toNat]) st else .stuck
    | .str x => .ok (.str x) st
    | _ => .stuck)
  | .sum => (ofO st (lstD st a)).bind fun xs st => (ofO st (intsD xs)).bind fun ns st => .ok (.int ns.sum) st
def joinT (sep : Tx) : List Tx → Tx
  | [] => []
  | [x] => x
  | x :: y :: r => x ++ sep ++ joinT sep (y :: r)
/-- cut at each sign c -/
def splitT (c : Nat) (x : Tx) : List Tx := TL.spl [c] 0 [] x
def me0D (m : Me) (a : D) (st : Sto) : R D := match m, a with
  | .pop, .loc n => (match st[n]? with
    | some (.lst xs) => (match xs.getLast? with | some x => .ok x (st.set n (.lst xs.dropLast)) | none => .stuck)
    | _ => .stuck)
  | .clear, .loc n => (match st[n]? with | some (.lst _) => .ok .non (st.set n (.lst [])) | _ => .stuck)
  | _, _ => .stuck
def me1D (m : Me) (a b : D) (st : Sto) : R D := match m, a with
  | .append, .loc n => (match st[n]? with
    | some (.lst xs) => if xs.length < LIM then .ok .non (st.set n (.lst (xs ++ [b]))) else .stuck
    | _ => .stuck)
  | .pop, .loc n => (match st[n]?, b with
    | some (.lst xs), .int i => (match ixN xs.length i with
      | some k => (match xs[k]? with | some x => if xs.length ≤ LIM then .ok x (st.set n (.lst (xs.eraseIdx k))) else .stuck | none => .stuck)
      | none => .stuck)
    | _, _ => .stuck)
  | .extend, .loc n => (match b with
    | .loc k => (match st[n]?, st[k]? with
      | some (.lst xs), some (.lst ys) => if xs.length + ys.length ≤ LIM then .ok .non (st.set n (.lst (xs ++ ys))) else .stuck
      | _, _ => .stuck)
    | .tup ys => (match st[n]? with
      | some (.lst xs) => if xs.length + ys.length ≤ LIM then .ok .non (st.set n (.lst (xs ++ ys))) else .stuck
      | _ => .stuck)
    | _ => .stuck)
  | .index, .loc n => (match st[n]?, toP st 2 b with
    | some (.lst xs), some p => (match toP st 2 (.tup xs) with
      | some (.tuple ps) => if SeqAt.shaped p = true ∧ SeqAt.shaped (.tuple ps) = true then
          (match ps.findIdx? fun z => PyData.eqv z p with | some j => .ok (.int j) st | none => .stuck) else .stuck
      | _ => .stuck)
    | _, _ => .stuck)
  | .join, .str sep => (ofO st (seqD st b)).bind fun xs st => (ofO st (strsD xs)).bind fun ys st =>
      if (ys.map List.length).sum + ys.length * sep.length ≤ LIM then .ok (.str (joinT sep ys)) st else .stuck
  | .split, .str x => (match b with
    | .str [c] => if c < 256 ∧ x.length + 2 ≤ LIM then .ok (.loc st.length) (st ++ [.lst ((splitT c x).map D.str)]) else .stuck
    | _ => .stuck)
  | _, _ => .stuck
/-- whether a thing has such a method -/
def recvOk (m : Me) (st : Sto) (d : D) : Bool := match m with
  | .join => (match d with | .str _ => true | _ => false)
  | .split => (match d with | .str _ => true | _ => false)
  | _ => decide (kindD st d = some (some .lst))
/-- what is told of a work: what it came to, or which exception it ended by -/
def toldR (tw : Nat → Option (Tx × Option Str)) : R D → R D
  | .ok d st => .ok d st
  | .exc x st => (match tw x.c, x.f with
    | some (w, none), none => .ok (.tup [.str w, .int 0]) st
    | some (w, some f), some (g, d) => if g = f then .ok (.tup [.str w, d]) st else .stuck
    | _, _ => .stuck)
  | .stuck => .stuck
def bOf (st : Sto) : D → R Bool
  | .bl b => .ok b st
  | _ => .stuck
def iOf (st : Sto) : D → R Int
  | .int b => .ok b st
  | _ => .stuck
def asgT (ρ : Env) : IT → D → Option Env
  | .name i, d => some (ρ.set i (some d))
  | .tup is, .tup ds => if ds.length = is.length then some ((is.zip ds).foldl (fun ρ p => ρ.set p.1 (some p.2)) ρ) else none
  | _, _ => none
def wipeE (ρ : Env) : List Nat → Env
  | [] => ρ
  | v :: vs => (wipeE ρ vs).set v none
/-- what is walked: the items, and the list that must stand as it is meanwhile -/
structure Wk where
  xs : List D
  l : Option (Nat × Cell)
def Wk.stays (w : Wk) (st : Sto) : Bool := match w.l with
  | none => true
  | some (n, c) => decide (st[n]? = some c)
/-- with their numbers -/
def enumD (i : Nat) : List D → List D
  | [] => []
  | x :: xs => .tup [.int i, x] :: enumD (i + 1) xs
def Wk.enum (w : Wk) : Wk := ⟨enumD 0 w.xs, w.l⟩
def wkD (a : D) (st : Sto) : R Wk := match a with
  | .tup xs => .ok ⟨xs, none⟩ st
  | .loc n => (match st[n]? with
    | some (.lst xs) => .ok ⟨xs, some (n, .lst xs)⟩ st
    | _ => .stuck)
  | .fl xs => .ok ⟨xs, none⟩ st
  | _ => .stuck
def rngW (lo : Int) (n : Nat) : Wk := ⟨(List.range n).map fun (k : Nat) => D.int (lo + (k : Int)), none⟩
def iLim (i : Int) : Prop := -(2 ^ 62) ≤ i ∧ i < 2 ^ 62
instance (i : Int) : Decidable (iLim i) := by unfold iLim; infer_instance
def compL (w : Wk) (f : D → Sto → R (Option D)) : List D → Sto → R (List D)
  | [], st => if w.stays st = true then .ok [] st else .stuck
  | x :: xs, st => if w.stays st = true then (f x st).bind fun o st => (compL w f xs st).bind fun ys st => .ok (match o with | some y => y :: ys | none => ys) st else .stuck
mutual
def ev (C : Cl) : IE → Env → Sto → R D
  | .var i, ρ, st => (match ρ[i]? with | some (some d) => .ok d st | _ => .stuck)
  | .cst d, _, st => .ok d st
  | .gl d, _, st => .ok d st
  | .tup es, ρ, st => (evs C es ρ st).bind fun ds st => if ds.length ≤ LIM then .ok (.tup ds) st else .stuck
  | .lst es, ρ, st => (evs C es ρ st).bind fun ds st => if ds.length ≤ LIM then .ok (.loc st.length) (st ++ [.lst ds]) else .stuck
  | .bin o a b, ρ, st => (ev C a ρ st).bind fun x st => (ev C b ρ st).bind fun y st => binD o x y st
  | .cmp o a b, ρ, st => (ev C a ρ st).bind fun x st => (ev C b ρ st).bind fun y st => cmpD o x y st
  | .and a b, ρ, st => (ev C a ρ st).bind fun x st => (bOf st x).bind fun k st => if k = true then (ev C b ρ st).bind fun y st => (bOf st y).bind fun j st => .ok (.bl j) st else .ok (.bl false) st
  | .or a b, ρ, st => (ev C a ρ st).bind fun x st => (bOf st x).bind fun k st => if k = true then .ok (.bl true) st else (ev C b ρ st).bind fun y st => (bOf st y).bind fun j st => .ok (.bl j) st
  | .not a, ρ, st => (ev C a ρ st).bind fun x st => (bOf st x).bind fun k st => .ok (.bl (!k)) st
  | .ite c a b, ρ, st => (ev C c ρ st).bind fun x st => (bOf st x).bind fun k st => if k = true then ev C a ρ st else ev C b ρ st
  | .ix a i, ρ, st => (ev C a ρ st).bind fun x st => (ev C i ρ st).bind fun y st => ixD x y st
  | .sl a lo hi, ρ, st => (ev C a ρ st).bind fun x st => (evO C lo ρ st).bind fun l st => (evO C hi ρ st).bind fun h st => slD x l h st
  | .rev a, ρ, st => (ev C a ρ st).bind fun x st => revD x st
  | .fld a f, ρ, st => (ev C a ρ st).bind fun x st => fldD x f st
  | .isi a k, ρ, st => (ev C a ρ st).bind fun x st => isiD x k st
  | .bi b a, ρ, st => (ev C a ρ st).bind fun x st => biD b x st
  | .call f es, ρ, st => (evs C es ρ st).bind fun ds st => C.call f ds st
  | .mk c es, ρ, st => (evs C es ρ st).bind fun ds st => match C.ini c with
    | some f => (C.call f (.loc st.length :: ds) (st ++ [.ins c []])).bind fun r st' => if r = .non then .ok (.loc st.length) st' else .stuck
    | none => .stuck
  | .me0 m a, ρ, st => (ev C a ρ st).bind fun x st => if recvOk m st x = true then me0D m x st else .stuck
  | .me1 m a b, ρ, st => (ev C a ρ st).bind fun x st => if recvOk m st x = true then (ev C b ρ st).bind fun y st => me1D m x y st else .stuck
  | .om nm m a es, ρ, st => (ev C a ρ st).bind fun x st => match x with
    | .loc n => (match st[n]? with
      | some (.ins c fs) => (match C.meth c m, fs.lookup nm with
        | some f, none => (evs C es ρ st).bind fun ds st => C.call f (.loc n :: ds) st
        | _, _ => .stuck)
      | _ => .stuck)
    | _ => .stuck
  | .told e, ρ, st => toldR C.tw (ev C e ρ st)
  | .mn2 m a b, ρ, st => (ev C a ρ st).bind fun x st => (ev C b ρ st).bind fun y st => (iOf st x).bind fun i st => (iOf st y).bind fun j st => .ok (.int (if m = true then (if i < j then j else i) else (if j < i then j else i))) st
  | .dnew t, _, st => .ok (.loc st.length) (st ++ [if t = true then .dct [] else .dck []])
  | .cch o o' a b c, ρ, st => (ev C a ρ st).bind fun x st => (ev C b ρ st).bind fun y st => (cmpD o x y st).bind fun z st => (bOf st z).bind fun k st =>
      if k = true then (ev C c ρ st).bind fun w st => cmpD o' y w st else .ok (.bl false) st
  | .lrng1 a, ρ, st => (ev C a ρ st).bind fun x st => (iOf st x).bind fun i st => if 0 ≤ i ∧ i ≤ 100000 then .ok (.loc st.length) (st ++ [.lst (rngW 0 i.toNat).xs]) else .stuck
  | .lrng2 a b, ρ, st => (ev C a ρ st).bind fun x st => (ev C b ρ st).bind fun y st => (iOf st x).bind fun i st => (iOf st y).bind fun j st =>
      if 0 ≤ i ∧ i ≤ 100000 ∧ 0 ≤ j ∧ j ≤ 100000 then .ok (.loc st.length) (st ++ [.lst (rngW i (j - i).toNat).xs]) else .stuck
  | .comp e t own it c, ρ, st => (evI C it ρ st).bind fun w st =>
    ((compL w (fun x st => match asgT (wipeE ρ own) t x with
      | some ρ' => (evC C c ρ' st).bind fun k st => if k = true then (ev C e ρ' st).bind fun y st => .ok (some y) st else .ok none st
      | none => .stuck) w.xs st).noex).bind fun ys st => if ys.length ≤ LIM then .ok (.loc st.length) (st ++ [.lst ys]) else .stuck
def evs (C : Cl) : IEs → Env → Sto → R (List D)
  | .nil, _, st => .ok [] st
  | .cons e r, ρ, st => (ev C e ρ st).bind fun x st => (evs C r ρ st).bind fun xs st => .ok (x :: xs) st
def evO (C : Cl) : IO → Env → Sto → R (Option Int)
  | .none, _, st => .ok none st
  | .some e, ρ, st => (ev C e ρ st).bind fun x st => (iOf st x).bind fun i st => .ok (some i) st
/-- a comprehension's test -/
def evC (C : Cl) : IO → Env → Sto → R Bool
  | .none, _, st => .ok true st
  | .some e, ρ, st => (ev C e ρ st).bind fun x st => bOf st x
def evI (C : Cl) : II → Env → Sto → R Wk
  | .it e, ρ, st => (ev C e ρ st).bind fun x st => wkD x st
  | .enum e, ρ, st => (ev C e ρ st).bind fun x st => match x with
    | .loc _ => (wkD x st).bind fun w st => .ok w.enum st
    | .fl _ => (wkD x st).bind fun w st => .ok w.enum st
    | _ => .stuck
  | .rng1 e, ρ, st => (ev C e ρ st).bind fun x st => (iOf st x).bind fun i st => if iLim i then .ok (rngW 0 i.toNat) st else .stuck
  | .rng2 a b, ρ, st => (ev C a ρ st).bind fun x st => (ev C b ρ st).bind fun y st => (iOf st x).bind fun i st => (iOf st y).bind fun j st => if iLim i ∧ iLim j then .ok (rngW i (j - i).toNat) st else .stuck
end

/-- one turn of a comprehension -/
def turnC (C : Cl) (t : IT) (own : List Nat) (c : IO) (e : IE) (ρ : Env) (x : D) (st : Sto) : R (Option D) := match asgT (wipeE ρ own) t x with
      | some ρ' => (evC C c ρ' st).bind fun k st => if k = true then (ev C e ρ' st).bind fun y st => .ok (some y) st else .ok none st
      | none => .stuck

/-- where a statement ends -/
inductive Fl where
  | nx | bk | ct | rt (d : D)
inductive SR where
  | ok (f : Fl) (ρ : Env) (st : Sto) | exc (e : Ex) (ρ : Env) (st : Sto) | stuck
def R.sbind {α : Type} (ρ : Env) : R α → (α → Sto → SR) → SR
  | .ok a st, f => f a st
  | .exc e st, _ => .exc e ρ st
  | .stuck, _ => .stuck
/-- an exception is not carried -/
def SR.noex : SR → SR
  | .exc _ _ _ => .stuck
  | r => r
def SR.then : SR → (Env → Sto → SR) → SR
  | .ok .nx ρ st, f => f ρ st
  | r, _ => r
/-- the end of a loop's turn -/
def SR.turn : SR → (Env → Sto → SR) → SR
  | .ok .nx ρ st, f => f ρ st
  | .ok .ct ρ st, f => f ρ st
  | .ok .bk ρ st, _ => .ok .nx ρ st
  | r, _ => r
def loopW (t : Env → Sto → R Bool) (b : Env → Sto → SR) : Nat → Env → Sto → SR
  | 0, _, _ => .stuck
  | n + 1, ρ, st => (t ρ st).sbind ρ fun k st => if k = true then (b ρ st).turn (loopW t b n) else .ok .nx ρ st
def loopF (w : Wk) (t : IT) (b : Env → Sto → SR) : List D → Env → Sto → SR
  | [], ρ, st => if w.stays st = true then .ok .nx ρ st else .stuck
  | x :: xs, ρ, st => if w.stays st = true then (match asgT ρ t x with
    | some ρ' => (b ρ' st).turn (loopF w t b xs)
    | none => .stuck) else .stuck
def evT (C : Cl) (e : IE) (ρ : Env) (st : Sto) : R Bool := (ev C e ρ st).bind fun x st => bOf st x
mutual
def evS (C : Cl) (F : Nat) : IS → Env → Sto → SR
  | .asg t e, ρ, st => (ev C e ρ st).sbind ρ fun x st => match asgT ρ t x with | some ρ' => .ok .nx ρ' st | none => .stuck
  | .setf a f e, ρ, st => (ev C e ρ st).sbind ρ fun y st => (ev C a ρ st).sbind ρ fun x st => match x with
    | .loc n => (match st[n]? with | some (.ins c fs) => if fs.length < 1000 then .ok .nx ρ (st.set n (.ins c (putF' f y fs))) else .stuck | _ => .stuck)
    | _ => .stuck
  | .seti a i e, ρ, st => (ev C e ρ st).sbind ρ fun y st => (ev C a ρ st).sbind ρ fun x st => (ev C i ρ st).sbind ρ fun k st => match x, k with
    | .loc n, .int i => (match st[n]? with
      | some (.lst xs) => (match ixN xs.length i with | some j => .ok .nx ρ (st.set n (.lst (xs.set j y))) | none => .stuck)
      | some (.dck kvs) => if kvs.length < LIM then .ok .nx ρ (st.set n (.dck (dPut kvs k y))) else .stuck
      | _ => .stuck)
    | .loc n, .str _ => (match st[n]? with
      | some (.dck kvs) => if kvs.length < LIM then .ok .nx ρ (st.set n (.dck (dPut kvs k y))) else .stuck
      | _ => .stuck)
    | .loc n, .tup _ => (match st[n]? with
      | some (.dct kvs) => if keyT k = true ∧ kvs.length < LIM then .ok .nx ρ (st.set n (.dct (dPut kvs k y))) else .stuck
      | _ => .stuck)
    | _, _ => .stuck
  | .expr e, ρ, st => (ev C e ρ st).sbind ρ fun _ st => .ok .nx ρ st
  | .ret e, ρ, st => (ev C e ρ st).sbind ρ fun x st => .ok (.rt x) ρ st
  | .retN, ρ, st => .ok (.rt .non) ρ st
  | .pass, ρ, st => .ok .nx ρ st
  | .brk, ρ, st => .ok .bk ρ st
  | .cont, ρ, st => .ok .ct ρ st
  | .ite c a b, ρ, st => (evT C c ρ st).sbind ρ fun k st => if k = true then evSs C F a ρ st else evSs C F b ρ st
  | .whl c b, ρ, st => loopW (evT C c) (evSs C F b) F ρ st
  | .for_ t it b, ρ, st => (evI C it ρ st).sbind ρ fun w st => loopF w t (evSs C F b) w.xs ρ st
  | .tryN b, ρ, st => (evSs C F b ρ st).noex
  | .rais0 c, ρ, st => .exc ⟨c, none⟩ ρ st
  | .rais1 c f e, ρ, st => (ev C e ρ st).sbind ρ fun d st => .exc ⟨c, some (f, d)⟩ ρ st
  | .never, _, _ => .stuck
def evSs (C : Cl) (F : Nat) : ISs → Env → Sto → SR
  | .nil, ρ, st => .ok .nx ρ st
  | .cons s r, ρ, st => (evS C F s ρ st).then (evSs C F r)
end

/-! ### a program -/
structure FnIR where
  np : Nat
  nl : Nat
  body : ISs
structure Prog where
  fns : List FnIR
  ini : Nat → Option Nat
  meth : Nat → Nat → Option Nat
  tw : Nat → Option (Tx × Option Str)
mutual
/-- no place at n or further is told -/
def clD (n : Nat) : D → Bool
  | .tup xs => clDs n xs
  | .loc k => decide (k < n)
  | .fl xs => clDs n xs
  | _ => true
def clDs (n : Nat) : List D → Bool
  | [] => true
  | x :: xs => clD n x && clDs n xs
end
def clC (n : Nat) : Cell → Bool
  | .lst xs => clDs n xs
  | .ins _ fs => clDs n (fs.map (·.2))
  | .dct kvs => clDs n (kvs.map (·.1)) && clDs n (kvs.map (·.2))
  | .dck kvs => clDs n (kvs.map (·.1)) && clDs n (kvs.map (·.2))
mutual
/-- the places that are told, in turn -/
def locsD : D → List Nat
  | .tup xs => locsDs xs
  | .loc k => [k]
  | .fl xs => locsDs xs
  | .non => [] | .bl _ => [] | .int _ => [] | .str _ => []
def locsDs : List D → List Nat
  | [] => []
  | x :: xs => locsD x ++ locsDs xs
end
def locsC : Cell → List Nat
  | .lst xs => locsDs xs
  | .ins _ fs => locsDs (fs.map (·.2))
  | .dct kvs => locsDs (kvs.map (·.2))
  | .dck kvs => locsDs (kvs.map (·.2))
mutual
/-- places by other numbers -/
def rnD (g : Nat → Nat) : D → D
  | .tup xs => .tup (rnDs g xs)
  | .loc k => .loc (g k)
  | .fl xs => .fl (rnDs g xs)
  | .non => .non | .bl b => .bl b | .int i => .int i | .str x => .str x
def rnDs (g : Nat → Nat) : List D → List D
  | [] => []
  | x :: xs => rnD g x :: rnDs g xs
end
def rnC (g : Nat → Nat) : Cell → Cell
  | .lst xs => .lst (rnDs g xs)
  | .ins c fs => .ins c (fs.map fun p => (p.1, rnD g p.2))
  | .dct kvs => .dct (kvs.map fun p => (p.1, rnD g p.2))
  | .dck kvs => .dck (kvs.map fun p => (p.1, rnD g p.2))
/-- the new places that are come to -/
def reach (n0 : Nat) (st : Sto) : Nat → List Nat → List Nat → List Nat
  | 0, _, acc => acc
  | _ + 1, [], acc => acc
  | f + 1, k :: todo, acc => if k < n0 ∨ k ∈ acc then reach n0 st f todo acc else
      reach n0 st f (todo ++ (match st[k]? with | some c => locsC c | none => [])) (acc ++ [k])
/-- the new number of a place -/
def newN (n0 : Nat) (L : List Nat) (k : Nat) : Nat := if k < n0 then k else n0 + L.idxOf k
def okN (n0 : Nat) (L : List Nat) (k : Nat) : Bool := decide (k < n0) || decide (k ∈ L)
/-- what stood is as it was, or told by what stood -/
def OldOk (st0 st : Sto) : Prop := ∀ i, i < st0.length → st[i]? = st0[i]? ∨ (st[i]?.map (clC st0.length)) = some true
instance (st0 st : Sto) : Decidable (OldOk st0 st) := by unfold OldOk; infer_instance
def pickC (n0 : Nat) (L : List Nat) (st : Sto) (k : Nat) : Cell := rnC (newN n0 L) (st[k]?.getD (.lst []))
def GcOk (n0 : Nat) (L : List Nat) (d : D) (st : Sto) : Prop := L.Nodup ∧ (∀ k ∈ L, n0 ≤ k ∧ (st[k]?.map fun c => (locsC c).all (okN n0 L)) = some true) ∧ (locsD d).all (okN n0 L) = true
instance (n0 : Nat) (L : List Nat) (d : D) (st : Sto) : Decidable (GcOk n0 L d st) := by unfold GcOk; infer_instance
/-- behind a call: of what was made in it there stays what is told, numbered anew -/
def gcD (n0 : Nat) (L : List Nat) (d : D) (st : Sto) : R D := if GcOk n0 L d st then .ok (rnD (newN n0 L) d) (st.take n0 ++ L.map (pickC n0 L st)) else .ok d st
def exC (e : Ex) : Bool := match e.f with | none => true | some (_, d) => clD 0 d
def finish (st0 : Sto) : R D → R D
  | .ok d st => if OldOk st0 st then gcD st0.length (reach st0.length st 40 (locsD d) []) d st else .ok d st
  | .exc e st => if exC e = true ∧ OldOk st0 st then .exc e (st.take st0.length) else .exc e st
  | .stuck => .stuck
def runB : SR → R D
  | .ok .nx _ st => .ok .non st
  | .ok (.rt d) _ st => .ok d st
  | .ok _ _ _ => .stuck
  | .exc e _ st => .exc e st
  | .stuck => .stuck
abbrev Fn := Nat → List D → Sto → R D
def Prog.step (pr : Prog) (F : Nat) (C : Cl) : Fn := fun f ds st => match pr.fns[f]? with
  | some fi => if ds.length = fi.np then finish st (runB (evSs C F fi.body (ds.map some ++ List.replicate (fi.nl - fi.np) none) st)) else .stuck
  | none => .stuck
def Prog.call (pr : Prog) (F : Nat) : Nat → Fn
  | 0 => fun _ _ _ => .stuck
  | k + 1 => pr.step F ⟨pr.call F k, pr.tw, pr.ini, pr.meth⟩
def Prog.cl (pr : Prog) (F k : Nat) : Cl := ⟨pr.call F k, pr.tw, pr.ini, pr.meth⟩

/-! ### that a piece stands in the text -/
structure CC where
  fns : List (Str × Nat)
  cls : List (Str × Nat)
  gls : List (Str × D)
  bls : List Str
  mns : List (Str × Nat)
  flds : List Str
  /-- exception classes that are raised with a written text; those with a field of their own -/
  ex0 : List (Str × Nat)
  ex1 : List (Str × (Nat × Str))
  /-- the def that tells of a work; the parameter that it calls -/
  tdef : Option Str
  /-- the code object and the name of the def in which it stands, if that makes lambdas -/
  lam : Option (Addr × Str)
def visB (sc : Scope) (x : Str) : Bool := match sc.names.lookup x with
  | some .local => true | some .cell => true | some .free => true | _ => false
def glB (sc : Scope) (x : Str) : Bool := decide (sc.names.lookup x = some .globalImplicit) && decide ((x == ("__debug__" : Str)) = false)
def isStar : Expr → Bool
  | .Starred .. => true
  | _ => false
def isComp : Expr → Bool
  | .ListComp .. => true | .SetComp .. => true | .DictComp .. => true
  | _ => false
def isSlice : Expr → Bool
  | .Slice .. => true
  | _ => false
def isSetD : Expr → Bool
  | .Set .. => true
  | _ => false
def baseOk : Expr → Bool
  | .Call _ [] _ _ => false
  | _ => true
def cstOk : D → Const → Bool
  | .non, .none => true
  | .bl a, .bool b => a == b
  | .int a, .int b => decide (a = b)
  | .str x, .str y => decide (y = sOf x)
  | _, _ => false
def opOk : BOp → Operator → Bool
  | .add, .Add => true | .sub, .Sub => true | .mul, .Mult => true | .fdiv, .FloorDiv => true | .mod, .Mod => true
  | _, _ => false
def copOk : COp → CmpOp → Bool
  | .eq, .Eq => true | .ne, .NotEq => true | .lt, .Lt => true | .le, .LtE => true | .gt, .Gt => true | .ge, .GtE => true
  | .isN, .Is => true | .notN, .IsNot => true | .mem, .In => true | .nmem, .NotIn => true
  | _, _ => false
def kdName : Kd → String
  | .bool => "bool" | .int => "int" | .str => "str" | .tup => "tuple" | .lst => "list"
def biName : Bi → Str
  | .len => "len" | .int => "int" | .list => "list" | .tuple => "tuple" | .str => "str" | .sum => "sum"
def meName : Me → Str
  | .append => "append" | .pop => "pop" | .extend => "extend" | .join => "join" | .clear => "clear" | .index => "index" | .split => "split"
def blB (cc : CC) (sc : Scope) (x : Str) : Bool := glB sc x && decide (x ∈ cc.bls) && decide (x ≠ ("__name__" : Str))
/-- numbered pairs come to a target of several names -/
def tgOk : II → Expr → Bool
  | .enum _, .Tuple _ _ _ => true
  | .enum _, _ => false
  | _, _ => true
def IT.slots : IT → List Nat
  | .name i => [i]
  | .tup is => is
def tgB (N : List Str) (sc : Scope) (fnS : Str → Bool) (i : Nat) : Expr → Bool
  | .Name x _ => decide (N[i]? = some x) && (match sc.names.lookup x with | some .local => true | some .cell => fnS x | _ => false)
  | _ => false
def tgsB (N : List Str) (sc : Scope) (fnS : Str → Bool) : List Nat → List Expr → Bool
  | [], [] => true
  | i :: is, e :: es => tgB N sc fnS i e && tgsB N sc fnS is es
  | _, _ => false
def chkT (N : List Str) (sc : Scope) (fnS : Str → Bool) : IT → Expr → Bool
  | .name i, e => tgB N sc fnS i e
  | .tup is, .Tuple es _ _ => tgsB N sc fnS is es
  | _, _ => false
/-- no parameters -/
def lamArgs : Arguments → Bool
  | a => a.posonlyargs.isEmpty && a.args.isEmpty && a.vararg.isNone && a.kwonlyargs.isEmpty && a.kw_defaults.isEmpty && a.kwarg.isNone && a.defaults.isEmpty
mutual
def chkE (cc : CC) (N : List Str) : Scope → IE → Expr → Bool
  | sc, .var i, e => (match e with | .Name x _ => decide (N[i]? = some x) && visB sc x && decide ((x == ("__debug__" : Str)) = false) && decide ((x == ("__classdict__" : Str)) = false) | _ => false)
  | _, .cst d, e => (match e with | .Constant c _ _ => cstOk d c | .UnaryOp .USub (.Constant (.int j) _ _) _ => decide (d = .int (-j)) | _ => false)
  | sc, .gl d, e => (match e with | .Name x _ => glB sc x && decide (cc.gls.lookup x = some d) | _ => false)
  | sc, .tup es, e => (match e with | .Tuple xs _ _ => chkEs cc N sc es xs | _ => false)
  | sc, .lst es, e => (match e with | .List xs _ => chkEs cc N sc es xs | _ => false)
  | sc, .bin o a b, e => (match e with | .BinOp x op y _ => opOk o op && chkE cc N sc a x && chkE cc N sc b y | _ => false)
  | sc, .cmp o a b, e => (match e with | .Compare x [op] [y] _ => copOk o op && (!behindInMarks op y) && chkE cc N sc a x && chkE cc N sc b y | _ => false)
  | sc, .and a b, e => (match e with
    | .BoolOp .And [x, y] _ => chkE cc N sc a x && chkE cc N sc b y
    | .BoolOp .And (x :: y :: z :: r) pos => chkE cc N sc a x && chkE cc N sc b (.BoolOp .And (y :: z :: r) pos)
    | _ => false)
  | sc, .or a b, e => (match e with
    | .BoolOp .Or [x, y] _ => chkE cc N sc a x && chkE cc N sc b y
    | .BoolOp .Or (x :: y :: z :: r) pos => chkE cc N sc a x && chkE cc N sc b (.BoolOp .Or (y :: z :: r) pos)
    | _ => false)
  | sc, .not a, e => (match e with | .UnaryOp .Not x _ => chkE cc N sc a x | _ => false)
  | sc, .ite c a b, e => (match e with | .IfExp t x y _ => chkE cc N sc c t && chkE cc N sc a x && chkE cc N sc b y | _ => false)
  | sc, .ix a i, e => (match e with | .Subscript x y _ => (!isSlice y) && chkE cc N sc a x && chkE cc N sc i y | _ => false)
  | sc, .sl a lo hi, e => (match e with | .Subscript x (.Slice l h none _) _ => chkE cc N sc a x && chkO cc N sc lo l && chkO cc N sc hi h | _ => false)
  | sc, .rev a, e => (match e with | .Subscript x (.Slice none none (some (.UnaryOp .USub (.Constant (.int 1) _ _) _)) _) _ => chkE cc N sc a x | _ => false)
  | sc, .fld a f, e => (match e with | .Attribute x g _ => decide (f = g) && decide (f ∈ cc.flds) && baseOk x && chkE cc N sc a x | _ => false)
  | sc, .isi a k, e => (match e with | .Call (.Name nm _) [x, .Name t _] [] _ => decide (nm = "isinstance") && decide (t = Str.ofString (kdName k)) && blB cc sc nm && blB cc sc t && (!isStar x) && chkE cc N sc a x | _ => false)
  | sc, .bi b a, e => (match e with | .Call (.Name nm _) [x] [] _ => decide (nm = biName b) && blB cc sc nm && (!isStar x) && chkE cc N sc a x | _ => false)
  | sc, .call f es, e => (match e with | .Call (.Name nm _) xs [] _ => decide (cc.fns.lookup nm = some f) && glB sc nm && chkEs cc N sc es xs | _ => false)
  | sc, .mk c es, e => (match e with | .Call (.Name nm _) xs [] _ => decide (cc.cls.lookup nm = some c) && glB sc nm && chkEs cc N sc es xs | _ => false)
  | sc, .me0 m a, e => (match e with | .Call (.Attribute x nm ap) [] [] p => decide (nm = meName m) && decide (m = .pop ∨ m = .clear) && baseOk x && (ap.endLine == p.line) && chkE cc N sc a x | _ => false)
  | sc, .me1 m a b, e => (match e with | .Call (.Attribute x nm ap) [y] [] p => decide (nm = meName m) && decide (m ≠ .clear) && baseOk x && (!isStar y) && (ap.endLine == p.line) && chkE cc N sc a x && chkE cc N sc b y | _ => false)
  | sc, .om x' m a es, e => (match e with | .Call (.Attribute x nm ap) xs [] p => decide (x' = nm) && decide (cc.mns.lookup nm = some m) && baseOk x && (ap.endLine == p.line) && decide (xs.length < 20) && chkE cc N sc a x && chkEs cc N sc es xs | _ => false)
  | sc, .told a, e => (match e with | .Call (.Name nm _) [.Lambda params body scope _] [] _ => decide (cc.tdef = some nm) && glB sc nm && cc.lam.isSome && lamArgs params && LamX.lamSB sc scope && chkE { cc with lam := none } N scope a body | _ => false)
  | sc, .mn2 m a b, e => (match e with | .Call (.Name nm _) [x, y] [] _ => decide (nm = if m = true then "max" else "min") && blB cc sc nm && (!isStar x) && (!isStar y) && chkE cc N sc a x && chkE cc N sc b y | _ => false)
  | _, .dnew _, e => (match e with | .Dict [] [] _ => true | _ => false)
  | sc, .cch o o' a b c, e => (match e with | .Compare x [op, op'] [y, z] _ => copOk o op && copOk o' op' && (!lastMarks [op, op'] [y, z]) && chkE cc N sc a x && chkE cc N sc b y && chkE cc N sc c z | _ => false)
  | sc, .lrng1 a, e => (match e with | .Call (.Name ln _) [.Call (.Name nm _) [x] [] _] [] _ => decide (ln = "list") && blB cc sc ln && decide (nm = "range") && blB cc sc nm && (!isStar x) && chkE cc N sc a x | _ => false)
  | sc, .lrng2 a b, e => (match e with | .Call (.Name ln _) [.Call (.Name nm _) [x, y] [] _] [] _ => decide (ln = "list") && blB cc sc ln && decide (nm = "range") && blB cc sc nm && (!isStar x) && (!isStar y) && chkE cc N sc a x && chkE cc N sc b y | _ => false)
  | sc, .comp e t own it c, x => (match x with
    | .ListComp elt [⟨tg, iter, ifs, k⟩] scope _ => decide (k = 0) && blkC N sc scope (own.map fun i => (N.getD i "", i)) && (t.slots.all fun i => decide (i ∈ own)) && chkT N (relS scope sc) (fun x => scope.names.lookup x == some .cell) t tg && tgOk it tg && chkI cc N sc it iter &&
        (!isSetD iter) && chkC cc N (relS scope sc) c ifs && chkE cc N (relS scope sc) e elt
    | _ => false)
def chkEs (cc : CC) (N : List Str) : Scope → IEs → List Expr → Bool
  | _, .nil, es => (match es with | [] => true | _ => false)
  | sc, .cons a r, es => (match es with | e :: es => (!isStar e) && chkE cc N sc a e && chkEs cc N sc r es | _ => false)
def chkO (cc : CC) (N : List Str) : Scope → IO → Option Expr → Bool
  | _, .none, e => (match e with | none => true | _ => false)
  | sc, .some a, e => (match e with | some e => chkE cc N sc a e | _ => false)
def chkC (cc : CC) (N : List Str) : Scope → IO → List Expr → Bool
  | _, .none, e => (match e with | [] => true | _ => false)
  | sc, .some a, e => (match e with | [e] => chkE cc N sc a e | _ => false)
def chkI (cc : CC) (N : List Str) : Scope → II → Expr → Bool
  | sc, .it a, e => chkE cc N sc a e
  | sc, .enum a, e => (match e with | .Call (.Name nm _) [x] [] _ => decide (nm = "enumerate") && blB cc sc nm && (!isStar x) && chkE cc N sc a x | _ => false)
  | sc, .rng1 a, e => (match e with | .Call (.Name nm _) [x] [] _ => decide (nm = "range") && blB cc sc nm && (!isStar x) && chkE cc N sc a x | _ => false)
  | sc, .rng2 a b, e => (match e with | .Call (.Name nm _) [x, y] [] _ => decide (nm = "range") && blB cc sc nm && (!isStar x) && (!isStar y) && chkE cc N sc a x && chkE cc N sc b y | _ => false)
end
def bothTup : Expr → Expr → Bool
  | .Tuple .., .Tuple .. => true
  | _, _ => false
def setComp (sc : Scope) : Expr → Expr → Bool
  | .Name y py, .ListComp _ _ scope pos => decide (sc.names.lookup y = some .local) && (py.line == pos.line) && !(scope.names.any fun (n, k) => n == y && (k == .local || k == .cell))
  | _, v => !isComp v
mutual
def chkS (cc : CC) (N : List Str) (sc : Scope) : IS → Stmt → Bool
  | .asg t e, s => (match s with | .Assign [tg] v _ => (!bothTup tg v) && setComp sc tg v && chkT N sc (fun _ => true) t tg && chkE cc N sc e v | _ => false)
  | .setf a f e, s => (match s with | .Assign [.Attribute o g _] v _ => decide (f = g) && decide (f ∈ cc.flds) && chkE cc N sc a o && chkE cc N sc e v | _ => false)
  | .seti a i e, s => (match s with | .Assign [.Subscript o k _] v _ => (!isSlice k) && chkE cc N sc a o && chkE cc N sc i k && chkE cc N sc e v | _ => false)
  | .expr e, s => (match s with | .Expr v _ => (!isComp v) && chkE cc N sc e v | _ => false)
  | .ret e, s => (match s with | .Return (some v) _ => chkE cc N sc e v | _ => false)
  | .retN, s => (match s with | .Return none _ => true | _ => false)
  | .pass, s => (match s with | .Pass _ => true | _ => false)
  | .brk, s => (match s with | .Break _ => true | _ => false)
  | .cont, s => (match s with | .Continue _ => true | _ => false)
  | .ite c a b, s => (match s with | .If t xs ys _ => chkE cc N sc c t && chkSs cc N sc a xs && chkSs cc N sc b ys | _ => false)
  | .whl c b, s => (match s with | .While t xs [] _ => chkE cc N sc c t && chkSs cc N sc b xs | _ => false)
  | .for_ t it b, s => (match s with | .For tg iter xs [] _ => chkT N sc (fun _ => true) t tg && tgOk it tg && chkI cc N sc it iter && (!isSetD iter) && chkSs cc N sc b xs | _ => false)
  | .tryN b, s => (match s with | .Try xs (_ :: _) [] [] _ => chkSs cc N sc b xs | _ => false)
  | .rais0 c, s => (match s with | .Raise (some (.Call (.Name nm _) [.Constant (.str _) _ _] [] _)) none _ => decide (cc.ex0.lookup nm = some c) && glB sc nm | _ => false)
  | .rais1 c f a, s => (match s with | .Raise (some (.Call (.Name nm _) [x] [] _)) none _ => decide (cc.ex1.lookup nm = some (c, f)) && glB sc nm && (!isStar x) && chkE cc N sc a x | _ => false)
  | .never, _ => true
def chkSs (cc : CC) (N : List Str) (sc : Scope) : ISs → List Stmt → Bool
  | .nil, ss => (match ss with | [] => true | _ => false)
  | .cons a r, ss => (match ss with | s :: ss => chkS cc N sc a s && chkSs cc N sc r ss | _ => false)
end
end Z
/-! dicts whose keys are tuples of ints, texts, None and tuples -/
namespace Z
open PySem L2 PySem.Spec PyProof.Rows
mutual
def pyNk : NestedKey → PyData
  | .none => .none
  | .num i => .int i
  | .text x => .str x
  | .tup ks => .tuple (pyNks ks)
def pyNks : List NestedKey → List PyData
  | [] => []
  | k :: ks => pyNk k :: pyNks ks
end
mutual
theorem nk_reads {h : Heap} : ∀ (k : NestedKey) {u : Value} {as : List Addr}, Reads h u (pyNk k) as → NestedIs h k u
  | .none, u, as, r => by rw [pyNk] at r; cases r; exact .none
  | .num i, u, as, r => by rw [pyNk] at r; cases r; exact .int _ _
  | .text x, u, as, r => by rw [pyNk] at r; cases r; exact .text _ _
  | .tup ks, u, as, r => by
    rw [pyNk] at r
    cases r with
    | tuple h1 h2 h3 h4 => exact .tup h1 h2 h3 (nks_reads ks h4)
theorem nks_reads {h : Heap} : ∀ (ks : List NestedKey) {us : List Value} {as : List Addr}, ReadsAll h us (pyNks ks) as → NestedAll h ks us
  | [], us, as, r => by rw [pyNks] at r; cases r; exact .nil
  | k :: ks, us, as, r => by
    rw [pyNks] at r
    cases r with
    | cons h1 h2 => exact .cons (nk_reads k h1) (nks_reads ks h2)
end
abbrev NdX := List (NestedKey × Addr × Value)
def NdR (P : Program) (w : World) (a : Addr) (xs : NdX) (h : Heap) : Prop := (a == sysModules) = false ∧ xs.length ≤ sizeLine ∧
  ∃ o es ep, h.get? a = some o ∧ o.ExactDict ∧ o.data = .dict es ep ∧ es.toList = xs.map (entryOfKey (nestedKind P w)) ∧ (xs.map (·.1)).Nodup
def NdO (P : Program) (w : World) (a : Addr) (xs : NdX) : HO := .ext (NdR P w a xs)
theorem ndO_ok {P : Program} {w : World} {H : Hp} {h : Heap} {a : Addr} {xs : NdX} (x : NdR P w a xs h) : ObjOk P w H h a (NdO P w a xs) := by
  obtain ⟨h1, h2, o, es, ep, e, r⟩ := id x
  exact ⟨x, ⟨o, e⟩, fun g1 g2 ⟨a1, a2, o', es', ep', e', r'⟩ st => ⟨a1, a2, o', es', ep', st _ e', r'⟩⟩
/-- its keys -/
def NdKs (K : PySem.W.Frag) (H : Hp) (xs : NdX) : Prop := ∀ x ∈ xs, Dp K H (.ref x.2.1) (pyNk x.1) ∧ x.1.depth ≤ 8
section
variable {X : Cx} {pins : List (Addr × Obj)} {σ : L2.St} {H : Hp} {s : Shared} {a b : Addr} {xs : NdX}
theorem nk_is (I : Inv X pins σ H s) {k : NestedKey} (h : Dp X.K H (.ref b) (pyNk k)) (hd : k.depth ≤ 8) : (nestedKind X.prog X.w).is s.heap k b := by
  obtain ⟨as, r⟩ := Dp.reads I _ _ (.ref b) h rfl
  exact ⟨nk_reads k r, hd⟩
theorem nd_at (I : Inv X pins σ H s) (e : H a = some (NdO X.prog X.w a xs)) (hk : NdKs X.K H xs) : (a == sysModules) = false ∧ xs.length ≤ sizeLine ∧ s.heap.DictOfH (nestedKind X.prog X.w) a xs := by
  obtain ⟨⟨h1, h2, o, es, ep, h3, h4, h5, h6, h7⟩, _, _⟩ := I.hok a _ e
  exact ⟨h1, h2, o, es, ep, h3, h4, h5, h6, fun x hx => nk_is I (hk x hx).1 (hk x hx).2, h7⟩
def rNdIx (P : Program) (w : World) (K : PySem.W.Frag) : R2 := fun x y H Q => ∃ a b xs k ka u v, x = .ref a ∧ y = .ref b ∧ H a = some (NdO P w a xs) ∧ NdKs K H xs ∧ Dp K H (.ref b) (pyNk k) ∧ k.depth ≤ 8 ∧ atKey xs k = some (ka, u) ∧ RelV v u ∧ Q v H
theorem nd_getItem (hu : X.A.units + 9 < cLine) {x y : V} {v u : Value} {Q : VK} (I : Inv X pins σ H s) (rx : RelV x v) (ry : RelV y u) (h : rNdIx X.prog X.w X.K x y H Q) : wpAny (model X.prog X.w) X.A (getItem v u) (EP X pins σ Q) X.xe s := by
  obtain ⟨a, b, xs, k, ka, w', v', rfl, rfl, e, hk, dk, hd, hat, rv, q⟩ := h
  obtain rfl : v = Value.ref a := rx
  obtain rfl : u = Value.ref b := ry
  obtain ⟨h1, h2, dd⟩ := nd_at I e hk
  exact wpAny_getItem_heap (show X.A.units + 1 + 8 < cLine by omega) (nk_is I dk hd) dd hat ⟨v', H, I.tok _, rv, q⟩
def rNdIn (P : Program) (w : World) (K : PySem.W.Frag) (neg : Bool) : R2 := fun x y H Q => ∃ a b xs k, y = .ref a ∧ x = .ref b ∧ H a = some (NdO P w a xs) ∧ NdKs K H xs ∧ Dp K H (.ref b) (pyNk k) ∧ k.depth ≤ 8 ∧ Q (.bl (if neg then !(atKey xs k).isSome else (atKey xs k).isSome)) H
theorem op_ndIn (hu : X.A.units + 9 < cLine) : OpR X (compareOp .In) (rNdIn X.prog X.w X.K false) := by
  intro pins s σ H x y v u Q I rx ry h
  obtain ⟨a, b, xs, k, rfl, rfl, e, hk, dk, hd, q⟩ := h
  obtain rfl : v = Value.ref b := rx
  obtain rfl : u = Value.ref a := ry
  obtain ⟨h1, h2, dd⟩ := nd_at I e hk
  exact wpAny_in_heap (show X.A.units + 1 + 8 < cLine by omega) (nk_is I dk hd) h1 dd ⟨.bl _, H, I.tok _, rfl, q⟩
theorem op_ndNotIn (hu : X.A.units + 9 < cLine) : OpR X (compareOp .NotIn) (rNdIn X.prog X.w X.K true) := by
  intro pins s σ H x y v u Q I rx ry h
  obtain ⟨a, b, xs, k, rfl, rfl, e, hk, dk, hd, q⟩ := h
  obtain rfl : v = Value.ref b := rx
  obtain rfl : u = Value.ref a := ry
  obtain ⟨h1, h2, dd⟩ := nd_at I e hk
  exact wpAny_notIn_heap (show X.A.units + 1 + 8 < cLine by omega) (nk_is I dk hd) h1 dd ⟨.bl _, H, I.tok _, rfl, q⟩
theorem storedH_len {K : Type} [DecidableEq K] (xs : List (K × Addr × Value)) (k : K) (a : Addr) (v : Value) : (storedH xs k a v).length ≤ xs.length + 1 := by
  unfold storedH; split <;> simp
def rNdSet (P : Program) (w : World) (K : PySem.W.Frag) : TSet := fun o i v H Q => ∃ a b xs k, o = .ref a ∧ i = .ref b ∧ H a = some (NdO P w a xs) ∧ NdKs K H xs ∧ Dp K H (.ref b) (pyNk k) ∧ k.depth ≤ 8 ∧ xs.length < sizeLine ∧
  ∀ u, RelV v u → Q (upd H a (NdO P w a (storedH xs k b u)))
theorem set_nd (hu : X.A.units + 9 < cLine) : PSet X (rNdSet X.prog X.w X.K) := by
  intro pins s σ H o i v ov iv u Q I ro ri rv h
  obtain ⟨a, b, xs, k, rfl, rfl, e, hk, dk, hd, hl, q⟩ := h
  obtain rfl : ov = Value.ref a := ro
  obtain rfl : iv = Value.ref b := ri
  obtain ⟨h1, h2, dd⟩ := nd_at I e hk
  refine wpAny_setItem_heap (hsz := h2) (show X.A.units + 1 + 8 < cLine by omega) (nk_is I dk hd) dd fun h' dd' hs => ?_
  obtain ⟨o, es, ep, g1, g2, g3, g4, _, g5⟩ := dd'
  refine ⟨_, d_write I (by rw [e]; exact True.intro) hs ⟨o, g1⟩ (ndO_ok ⟨h1, ?_, o, es, ep, g1, g2, g3, g4, g5⟩), q u rv⟩
  have := storedH_len xs k b u
  omega
def tNdNew (P : Program) (w : World) : TE := fun _ H Q => ∀ p, H p = none → Q (.ref p) (upd H p (NdO P w p []))
theorem pe_ndNew {pos : Pos} : PE X (.Dict [] [] pos) (tNdNew X.prog X.w) := ⟨fun pins s σ H Q I h =>
  wpAny_Dict_empty ⟨.ref s.heap.objs.size, _, I.laid (a := s.heap.objs.size) (o := NdO X.prog X.w s.heap.objs.size []) (t' := s.toks) (fun _ _ q => Heap.get?_push_of_some _ q) (Nat.le_refl _)
    (ndO_ok ⟨beq_eq_false_iff_ne.mpr (Ne.symm (Nat.ne_of_lt I.big)), Nat.zero_le _, _, #[], 0, Heap.get?_push_size _ rfl, ⟨rfl, rfl, rfl⟩, rfl, rfl, List.nodup_nil⟩), rfl, h _ (I.hok.fresh (Nat.le_refl _))⟩⟩
end
end Z
/-! t[::-1], s[::-1]; xs.extend(t) -/
namespace PySem.AutoSeq1
theorem extend_lt (l : Addr) (items : Array Value) (n : Nat) (b : Addr) (items2 : Array Value) (n2 : Nat) (dd : Option Addr) (ss : Array (Option Value)) (hs0 : ¬(!items.isEmpty && Builtin.List.listTooLong (items.size + items2.size)) = true) (hs1 : items.size ≤ sizeLine) (hs2 : items.size + items2.size ≤ sizeLine + 1) :
    Meets (Builtin.«list.extend» ⟨[.ref l, .ref b], []⟩) (fun _ R s => s.heap.get? l = some { cls := .type "list", dict := none, data := .seq items n, slots := #[] } ∧ s.heap.get? b = some { cls := .type "tuple", dict := dd, data := .seq items2 n2, slots := ss } ∧ R (.ok (.ret Value.none)) { s with heap := s.heap.update l (Obj.mapSeq fun x => x ++ items2), toks := s.toks }) :=
  .of_wp fun prog w A R s h => by
    obtain ⟨hp, g, d, tk, os⟩ := s; obtain ⟨hl, hb, h⟩ := h; have f1 := idx_int; have f2 := sub_tuple_tuple; have f3 := sub_list_list; have f4 := sub_tuple_list; have f5 := sub_list_tuple;
    have hz' : (items ++ items2).size ≤ sizeLine + 1 := by rw [Array.size_append]; exact hs2
    wp_walk using (wpAny_updateSeq hl rfl (hz := hs1) (_hz' := hz')), wpAny_loadPart' hl, wpAny_loadPart' hb; exact ⟨_, rfl, h⟩
end PySem.AutoSeq1
namespace Z
open PySem L2 PySem.Spec PyProof.Rows
section
variable {prog : Program} {w : World} {A : Around} {E : Value → Shared → Prop} {s : Shared}
theorem adjust_rev (n : Nat) : Builtin.Slice.sliceAdjust none none (-1) (n : Int) = ((n : Int) - 1, -1) := by
  unfold Builtin.Slice.sliceAdjust
  have h1 : ((-1 : Int) < 0) := by omega
  simp only [h1, if_true]
theorem places_rev (n : Nat) : Builtin.Slice.slicePlaces ((n : Int) - 1) (-1) (-1) = n := by
  unfold Builtin.Slice.slicePlaces
  have h1 : ¬ ((-1 : Int) > 0) := by omega
  simp only [h1, if_false, show (- -1 : Int) = 1 by decide, Int.ediv_one]
  split <;> omega
theorem sliceApplied_rev {sl : Addr} {vs : Value} {n : Nat} {Q : Int × Int × Nat → Shared → Prop} (hs : s.heap.IsSliceOf sl .none .none vs) (ps : IsPart vs (some (-1)))
    (h : Q ((n : Int) - 1, -1, n) s) : wpAny (model prog w) A (Builtin.Slice.sliceApplied (.ref sl) (pure (n : Int))) Q E s := by
  obtain ⟨os, hos, hcs, hds⟩ := id hs
  unfold Builtin.Slice.sliceApplied Builtin.Slice.sliceFields
  refine wpAny_bind (wpAny_bind (wpAny_field hos hds (x := .none) rfl (wpAny_bind (wpAny_field hos hds (x := .none) rfl (wpAny_bind (wpAny_field hos hds (x := vs) rfl (wpAny_pure ?_)))))))
  refine wpAny_bind (HT.slicePart_ ps ?_)
  show wpAny _ _ (if ((-1 : Int) == 0) = true then _ else _) _ _ s
  rw [if_neg (by decide)]
  refine wpAny_bind (slicePart_none (wpAny_bind (slicePart_none (wpAny_bind (wpAny_pure ?_)))))
  show wpAny _ _ (match Builtin.Slice.sliceAdjust none none (-1) (n : Int) with | (lo, hi) => pure (lo, (-1 : Int), Builtin.Slice.slicePlaces lo hi (-1))) _ _ s
  rw [adjust_rev n]
  show wpAny _ _ (pure ((n : Int) - 1, (-1 : Int), Builtin.Slice.slicePlaces ((n : Int) - 1) (-1) (-1))) _ _ s
  rw [places_rev]
  exact wpAny_pure h
theorem fm_congr {α β : Type} {f g : α → Option β} : ∀ {l : List α}, (∀ a ∈ l, f a = g a) → l.filterMap f = l.filterMap g
  | [], _ => rfl
  | a :: l, h => by rw [List.filterMap_cons, List.filterMap_cons, h a List.mem_cons_self, fm_congr fun b hb => h b (List.mem_cons_of_mem _ hb)]
theorem pick_rev (xs : Array Value) : ((List.range xs.size).filterMap fun (m : Nat) => xs[((xs.size : Int) - 1 + (m : Int) * (-1)).toNat]?).toArray = xs.toList.reverse.toArray := by
  congr 1
  rw [← PySem.W.krv_all xs, ← List.filterMap_reverse, ← PySem.W.krv_range, List.filterMap_map]
  refine fm_congr fun m hm => ?_
  have := List.mem_range.mp hm
  show xs[((xs.size : Int) - 1 + (m : Int) * (-1)).toNat]? = xs[xs.size - 1 - m]?
  congr 1
  omega
theorem getItem_tuple_rev {t sl : Addr} {items : Array Value} {vs : Value} {Q : Value → Shared → Prop} (ht : IsTup s.heap t items) (hs : s.heap.IsSliceOf sl .none .none vs) (ps : IsPart vs (some (-1)))
    (h : Q (.ref s.heap.objs.size) { s with heap := s.heap.push { cls := .type "tuple", data := .seq items.toList.reverse.toArray } })
    (hsz : items.size ≤ sizeLine) : wpAny (model prog w) A (getItem (.ref t) (.ref sl)) Q E s := by
  have htake : sizeOk (.seq items.toList.reverse.toArray) := by
    show items.toList.reverse.toArray.size ≤ sizeLine
    rw [List.size_toArray, List.length_reverse, Array.length_toList]
    exact hsz
  obtain ⟨os, hos, hcs, hds⟩ := id hs
  have hTs : s.TypeIs (.ref sl) "slice" := ⟨os, hos, hcs⟩
  unfold getItem
  try with_reducible refine wpAny_holding ?_
  first | refine wpAny_bind (wpAny_pure ?_) | skip
  refine wpAny_bind (wpAny_sequenceKey ht.typeIs (by decide) ?_)
  refine wpAny_bind (wpAny_callSpecial?_slot (name := Str.ofString "__getitem__") ht.typeIs PyProof.Rows.slot_tuple_getitem
    (wpAny_call_entry PyProof.Rows.slot_tuple_getitem ht.typeIs entry_tuple_getitem ?_ (args_tuple_getitem _ _)))
  show wpAny _ _ (Builtin.Tuple.tupleItemsOf (.ref t) >>= _) _ _ s
  refine wpAny_bind (tupleItemsOf_ ht ?_)
  refine wpAny_bind (wpAny_typeOf hTs ?_)
  rw [if_pos (by decide)]
  refine wpAny_bind (sliceApplied_rev hs ps ?_)
  have hno : ¬ ((((items.size : Int) - 1) == 0 && (-1 : Int) == 1 && items.size == items.size) = true) := by simp
  show wpAny _ _ (if (((items.size : Int) - 1) == 0 && (-1 : Int) == 1 && items.size == items.size) = true then _ else _) _ _ s
  rw [if_neg hno, pick_rev]
  first
    | exact wpAny_bind (m := Builtin.Tuple.tupleExact _) (wpAny_newObj_type (wpAny_pure ⟨_, rfl, wpAny_pure h⟩) htake)
    | exact wpAny_bind (m := Builtin.Tuple.tupleExact _) (wpAny_newObj_type (wpAny_bind (wpAny_pure (wpAny_pure ⟨_, rfl, wpAny_pure h⟩))) htake)
    | exact wpAny_bind (wpAny_bind (m := Builtin.Tuple.tupleExact _) (wpAny_newObj_type (wpAny_pure (wpAny_pure ⟨_, rfl, wpAny_pure h⟩)) htake))
    | exact wpAny_bind (wpAny_bind (m := Builtin.Tuple.tupleExact _) (wpAny_newObj_type (wpAny_pure ⟨_, rfl, wpAny_pure h⟩) htake))
end
def rExtendT (K : PySem.W.Frag) : V → List V → Hp → VK → Prop := fun x vs H Q => ∃ l b xs zs, x = .ref l ∧ vs = [.ref b] ∧ H l = some (.lst xs) ∧ SqT K H b zs ∧ xs.length + zs.length ≤ sizeLine ∧ Q .non (upd H l (.lst (xs ++ zs)))
theorem mt_extendT {X : Cx} : MtM X "list.extend" (rExtendT X.K) := by
  intro pins s σ H x vs v us Q I rx rv h
  obtain ⟨l, b, xs, zs, rfl, rfl, hH, hB, hz, q⟩ := h
  cases rx
  obtain ⟨u, rfl, ru⟩ := rv.one
  cases ru
  obtain ⟨z, its, n, r, hl, e⟩ := I.lstM hH
  obtain ⟨its2, r2, ⟨⟨c2, dd, d2, ss⟩, e2, hc2, n2, hd2⟩, hl2⟩ := I.tuple hB
  dsimp only at hc2 hd2
  subst hc2 hd2
  have hle := r2.length
  have hsz : its.toArray.size + its2.toArray.size ≤ sizeLine := by rw [List.size_toArray, List.size_toArray]; omega
  have hlong : ¬ (!its.toArray.isEmpty && Builtin.List.listTooLong (its.toArray.size + its2.toArray.size)) = true := by
    rw [notLongL hsz, Bool.and_false]
    exact Bool.false_ne_true
  refine call_meets F.slot_list_extend ⟨_, e, rfl⟩ F.entry_list_extend (F.args_list_extend_2 _ _)
    (PySem.AutoSeq1.extend_lt l its.toArray n b its2.toArray n2 dd ss hlong (by rw [List.size_toArray]; omega) (by omega)) ⟨e, e2, ?_⟩
  refine ⟨.non, _, I.lset (its' := its ++ its2) hH e (by simp) (r.append r2) ?_, rfl, q⟩
  rw [List.length_append]
  omega
/-! a[::-1], any a -/
theorem strIx_rev (n : Nat) : Builtin.Str.strSliceIndices none none (-1) n = (List.range n).reverse := by
  rw [← PySem.W.krv_range, ← PySem.W.krv_sliceRange]
  rfl
theorem str_rev (z : Str) : (⟨((Builtin.Str.strSliceIndices none none (-1) z.length).filterMap (z.cps[·]?)).toArray⟩ : Str) = ⟨z.cps.toList.reverse.toArray⟩ := by
  rw [strIx_rev, List.filterMap_reverse]
  congr 3
  exact PySem.W.krv_all z.cps
def tRevA (K : PySem.W.Frag) (te : TE) : TE := fun σ H Q => te σ H fun x H1 => (∃ a xs, x = .ref a ∧ SqL K H1 a xs ∧ ∀ p, H1 p = none → Q (.ref p) (upd H1 p (.lst xs.reverse))) ∨
  (∃ a xs, x = .ref a ∧ SqT K H1 a xs ∧ ∀ p, H1 p = none → Q (.ref p) (upd H1 p (.tup xs.reverse))) ∨ (∃ z : Str, x = .str z ∧ z.length ≤ sizeLine ∧ Q (.str ⟨z.cps.toList.reverse.toArray⟩) H1)
theorem pe_revA {X : Cx} {e : Expr} {te : TE} {k : Nat} {p1 p2 p3 pos : Pos} (he : PE X e te) : PE X (.Subscript e (.Slice none none (some (.UnaryOp .USub (.Constant (.int 1) k p1) p2)) p3) pos) (tRevA X.K te) := by
  refine ⟨fun pins s σ H Q I h => ?_⟩
  refine Subscript_ (thn (he.run pins s σ H _ I h) fun v s1 ⟨x, H1, I1, r1, q1⟩ => ?_)
  have hst : PO X (some (.UnaryOp .USub (.Constant (.int 1) k p1) p2)) (tPart (tUn (rU fun i => .int (-i)) (tC (.int 1)))) := po_some (pe_un un_neg pe_int)
  refine wpAny_Slice (thn (po_none.run pins s1 σ H1 (fun o H2 => o = none ∧ H2 = H1) I1 ⟨rfl, rfl⟩) fun vl s2 ⟨l, H2, I2, pl, el, e2⟩ => ?_)
  subst el e2
  refine thn (po_none.run pins s2 σ H2 (fun o H3 => o = none ∧ H3 = H2) I2 ⟨rfl, rfl⟩) fun vu s3 ⟨u, H3, I3, pu, eu, e3⟩ => ?_
  subst eu e3
  refine thn (hst.run pins s3 σ H3 (fun o H4 => o = some (-1) ∧ H4 = H3) I3 ⟨1, rfl, -1, rfl, rfl, rfl⟩) fun vs s4 ⟨o, H4, I4, ps, eo, e4⟩ => ?_
  subst eo e4
  have I5 : Inv X pins σ H4 { s4 with heap := s4.heap.push { cls := .type "slice", data := .fields #[vl, vu, vs] } } := I4.kept (t' := s4.toks) fun b ob q => Heap.get?_push_of_some _ q
  rcases q1 with ⟨a, xs, ex, hx, q⟩ | ⟨a, xs, ex, hx, q⟩ | ⟨z, ex, hz, q⟩
  · subst ex
    cases r1
    obtain ⟨its, r, ht, hz⟩ := I5.list hx
    have hlen := r.length
    show wpAny (model X.prog X.w) X.A (subscriptTail e (.Slice none none (some (.UnaryOp .USub (.Constant (.int 1) k p1) p2)) p3) (.ref a) (.ref s4.heap.objs.size)) (EP X pins σ Q) X.xe { s4 with heap := s4.heap.push { cls := .type "slice", data := .fields #[vl, vu, vs] } }
    refine tail_any (ops := [.ref a, .ref s4.heap.objs.size]) ht.isList.typeIs (PySem.slot_list_getitem.lookup) ?_ (by with_unfolding_all rfl)
    refine wpAny_getItem_list_slice ht.isList (Heap.IsSliceOf.new _ vl vu vs) pl pu ps (by decide) ?_ (by rw [List.size_toArray]; omega)
    rw [PySem.W.krv_pick]
    refine ⟨.ref _, _, I5.laid (t' := s4.toks) (o := .lst xs.reverse) (fun b ob q => Heap.get?_push_of_some _ q) (Nat.le_refl _) ?_, rfl, q _ (I5.hok.fresh (Nat.le_refl _))⟩
    exact ⟨by rw [List.length_reverse]; exact hz, _, 0, r.reverse, Heap.get?_push_size _ rfl⟩
  · subst ex
    cases r1
    cases pl
    cases pu
    obtain ⟨its, r, ht, hz⟩ := I5.tuple hx
    have hlen := r.length
    show wpAny (model X.prog X.w) X.A (subscriptTail e (.Slice none none (some (.UnaryOp .USub (.Constant (.int 1) k p1) p2)) p3) (.ref a) (.ref s4.heap.objs.size)) (EP X pins σ Q) X.xe { s4 with heap := s4.heap.push { cls := .type "slice", data := .fields #[.none, .none, vs] } }
    refine tail_any (ops := [.ref a, .ref s4.heap.objs.size]) ht.typeIs (PyProof.Rows.slot_tuple_getitem.lookup) ?_ (by with_unfolding_all rfl)
    refine getItem_tuple_rev ht (Heap.IsSliceOf.new _ .none .none vs) ps ?_ (by rw [List.size_toArray]; omega)
    refine ⟨.ref _, _, I5.laid (t' := s4.toks) (o := .tup xs.reverse) (fun b ob q => Heap.get?_push_of_some _ q) (Nat.le_refl _) ?_, rfl, q _ (I5.hok.fresh (Nat.le_refl _))⟩
    exact ⟨by rw [List.length_reverse]; exact hz, _, r.reverse, IsTup.new _ _⟩
  · subst ex
    obtain ⟨t, rfl⟩ := r1
    cases pl
    cases pu
    obtain ⟨t2, rfl⟩ : ∃ t2, vs = .int (-1) t2 := by cases ps; exact ⟨_, rfl⟩
    show wpAny (model X.prog X.w) X.A (subscriptTail e (.Slice none none (some (.UnaryOp .USub (.Constant (.int 1) k p1) p2)) p3) (.str z t) (.ref s4.heap.objs.size)) (EP X pins σ Q) X.xe { s4 with heap := s4.heap.push { cls := .type "slice", data := .fields #[.none, .none, .int (-1) t2] } }
    refine tail_any (ops := [.str z t, .ref s4.heap.objs.size]) (typeIs_str _ z t) (F.slot_str_getitem.lookup) ?_ (by with_unfolding_all rfl)
    refine wpAny_getItem_str_slice (l := none) (u := none) (st := some (-1, t2)) ⟨_, Heap.get?_push_size _ rfl, rfl, rfl⟩ rfl ?_
    have hm : sliceMade z t none none (some (-1, t2)) = .str ⟨z.cps.toList.reverse.toArray⟩ := by
      unfold sliceMade
      rw [if_neg (by simp)]
      exact congrArg Made.str (str_rev z)
    rw [hm]
    exact ⟨by show z.cps.toList.reverse.toArray.size ≤ _; rw [List.size_toArray, List.length_reverse, Array.length_toList]; exact hz, .str _, H4, I5.tok _, ⟨_, rfl⟩, q⟩
end Z
namespace Z
open PySem L2
/-! ### what stands for what -/
structure Wd where
  P : Program
  w : World
  K : PySem.W.Frag
  mg : Str → Option Value
  base : Heap
  pr : Prog
  F : Nat
  fa : Nat → Addr
  fd : Nat → FuncData
  ps : Nat → List Str
  ca : Nat → Addr
  ncl : Nat
  /-- the tables of code objects, with the names of what they hold -/
  T : List (Addr × Str)
def SqF (K : PySem.W.Frag) (H : Hp) (a : Addr) (vs : List V) : Prop := (∃ o, H a = some (.frz o (.lst vs))) ∨
  ∃ (o : Obj) (its : Array Value) (n : Nat), K.lookup a = some o ∧ o.cls = .type "list" ∧ o.dict = none ∧ o.data = .seq its n ∧ its.size ≤ sizeLine ∧ Vals vs its.toList
theorem SqF.l {K : PySem.W.Frag} {H : Hp} {a : Addr} {vs : List V} (h : SqF K H a vs) : SqL K H a vs := by
  rcases h with h | h
  · exact .inl (.inr h)
  · exact .inr h
mutual
def Rp (K : PySem.W.Frag) (H : Hp) (m : List Addr) : D → V → Prop
  | .non, v => v = .non
  | .bl b, v => v = .bl b
  | .int i, v => v = .int i
  | .str x, v => v = .str (sOf x)
  | .tup ds, v => ∃ a vs, v = .ref a ∧ SqT K H a vs ∧ Rps K H m ds vs
  | .loc n, v => ∃ a, m[n]? = some a ∧ v = .ref a
  | .fl ds, v => ∃ a vs, v = .ref a ∧ SqF K H a vs ∧ Rps K H m ds vs
def Rps (K : PySem.W.Frag) (H : Hp) (m : List Addr) : List D → List V → Prop
  | [], vs => vs = []
  | d :: ds, vs => ∃ v vs', vs = v :: vs' ∧ Rp K H m d v ∧ Rps K H m ds vs'
end
theorem Rps.len {K : PySem.W.Frag} {H : Hp} {m : List Addr} : ∀ {ds : List D} {vs : List V}, Rps K H m ds vs → vs.length = ds.length
  | [], vs, h => by rw [Rps] at h; subst h; rfl
  | d :: ds, vs, h => by
    rw [Rps] at h
    obtain ⟨v, vs', rfl, _, h⟩ := h
    rw [List.length_cons, List.length_cons, Rps.len h]
theorem Rps.get {K : PySem.W.Frag} {H : Hp} {m : List Addr} : ∀ {ds : List D} {vs : List V} {i : Nat} {d : D}, Rps K H m ds vs → ds[i]? = some d → ∃ v, vs[i]? = some v ∧ Rp K H m d v
  | [], _, _, _, _, e => by simp at e
  | d :: ds, vs, i, d', h, e => by
    rw [Rps] at h
    obtain ⟨v, vs', rfl, h1, h2⟩ := h
    cases i with
    | zero => simp at e; subst e; exact ⟨v, rfl, h1⟩
    | succ i => simpa using Rps.get h2 (by simpa using e)
theorem Rps.append {K : PySem.W.Frag} {H : Hp} {m : List Addr} : ∀ {ds es : List D} {vs us : List V}, Rps K H m ds vs → Rps K H m es us → Rps K H m (ds ++ es) (vs ++ us)
  | [], es, vs, us, h, g => by rw [Rps] at h; subst h; exact g
  | d :: ds, es, vs, us, h, g => by
    rw [Rps] at h
    obtain ⟨v, vs', rfl, h1, h2⟩ := h
    rw [List.cons_append, List.cons_append, Rps]
    exact ⟨v, _, rfl, h1, Rps.append h2 g⟩
theorem Rps.drop {K : PySem.W.Frag} {H : Hp} {m : List Addr} : ∀ (n : Nat) {ds : List D} {vs : List V}, Rps K H m ds vs → Rps K H m (ds.drop n) (vs.drop n)
  | 0, _, _, h => h
  | n + 1, [], vs, h => by rw [Rps] at h; subst h; simp [Rps]
  | n + 1, d :: ds, vs, h => by
    rw [Rps] at h
    obtain ⟨v, vs', rfl, h1, h2⟩ := h
    exact Rps.drop n h2
theorem Rps.take {K : PySem.W.Frag} {H : Hp} {m : List Addr} : ∀ (n : Nat) {ds : List D} {vs : List V}, Rps K H m ds vs → Rps K H m (ds.take n) (vs.take n)
  | 0, _, _, h => by simp [Rps]
  | n + 1, [], vs, h => by rw [Rps] at h; subst h; simp [Rps]
  | n + 1, d :: ds, vs, h => by
    rw [Rps] at h
    obtain ⟨v, vs', rfl, h1, h2⟩ := h
    rw [List.take_succ_cons, List.take_succ_cons, Rps]
    exact ⟨v, _, rfl, h1, Rps.take n h2⟩
theorem Rps.set {K : PySem.W.Frag} {H : Hp} {m : List Addr} {d : D} {v : V} (r : Rp K H m d v) : ∀ (n : Nat) {ds : List D} {vs : List V}, Rps K H m ds vs → Rps K H m (ds.set n d) (vs.set n v)
  | _, [], vs, h => by rw [Rps] at h; subst h; simp [Rps]
  | 0, e :: ds, vs, h => by
    rw [Rps] at h
    obtain ⟨u, vs', rfl, h1, h2⟩ := h
    simp only [List.set_cons_zero]; rw [Rps]
    exact ⟨v, _, rfl, r, h2⟩
  | n + 1, e :: ds, vs, h => by
    rw [Rps] at h
    obtain ⟨u, vs', rfl, h1, h2⟩ := h
    simp only [List.set_cons_succ]; rw [Rps]
    exact ⟨u, _, rfl, h1, Rps.set r n h2⟩
theorem Rps.erase {K : PySem.W.Frag} {H : Hp} {m : List Addr} : ∀ (n : Nat) {ds : List D} {vs : List V}, Rps K H m ds vs → Rps K H m (ds.eraseIdx n) (vs.eraseIdx n)
  | _, [], vs, h => by rw [Rps] at h; subst h; simp [Rps]
  | 0, e :: ds, vs, h => by
    rw [Rps] at h
    obtain ⟨u, vs', rfl, h1, h2⟩ := h
    simpa using h2
  | n + 1, e :: ds, vs, h => by
    rw [Rps] at h
    obtain ⟨u, vs', rfl, h1, h2⟩ := h
    simp only [List.eraseIdx_cons_succ]; rw [Rps]
    exact ⟨u, _, rfl, h1, Rps.erase n h2⟩
theorem Rps.rev {K : PySem.W.Frag} {H : Hp} {m : List Addr} : ∀ {ds : List D} {vs : List V}, Rps K H m ds vs → Rps K H m ds.reverse vs.reverse
  | [], vs, h => by rw [Rps] at h; subst h; simp [Rps]
  | d :: ds, vs, h => by
    rw [Rps] at h
    obtain ⟨v, vs', rfl, h1, h2⟩ := h
    rw [List.reverse_cons, List.reverse_cons]
    exact (Rps.rev h2).append (by rw [Rps]; exact ⟨v, [], rfl, h1, by rw [Rps]⟩)
theorem Rps.dropLast {K : PySem.W.Frag} {H : Hp} {m : List Addr} {ds : List D} {vs : List V} (h : Rps K H m ds vs) : Rps K H m ds.dropLast vs.dropLast := by
  rw [List.dropLast_eq_take, List.dropLast_eq_take, h.len]
  exact h.take _
theorem Rps.one {K : PySem.W.Frag} {H : Hp} {m : List Addr} {d : D} {v : V} (h : Rp K H m d v) : Rps K H m [d] [v] := by
  rw [Rps]; exact ⟨v, [], rfl, h, by rw [Rps]⟩

/-- what a dict holds -/
def Dent (K : PySem.W.Frag) (H : Hp) (m : List Addr) : List (D × D) → NdX → Prop
  | [], xs => xs = []
  | (k, d) :: r, xs => ∃ nk ka u v xs', xs = (nk, ka, u) :: xs' ∧ nkD k = some nk ∧ nk.depth ≤ 8 ∧ Rp K H m k (.ref ka) ∧ RelV v u ∧ Rp K H m d v ∧ Dent K H m r xs'
def kyD : D → Option Key
  | .int i => some (.inl i)
  | .str x => some (.inr (sOf x))
  | _ => none
def Dkt (K : PySem.W.Frag) (H : Hp) (m : List Addr) : List (D × D) → List (Key × V) → Prop
  | [], xs => xs = []
  | (k, d) :: r, xs => ∃ ky v xs', xs = (ky, v) :: xs' ∧ kyD k = some ky ∧ Rp K H m d v ∧ Dkt K H m r xs'
/-- the fields of an instance -/
def Fsr (K : PySem.W.Frag) (H : Hp) (m : List Addr) (fs : List (Str × D)) (gs : List (Str × V)) : Prop := gs.map (·.1) = fs.map (·.1) ∧ Rps K H m (fs.map (·.2)) (gs.map (·.2))
def CellOk (W : Wd) (H : Hp) (m : List Addr) (a : Addr) : Cell → Prop
  | .lst ds => ∃ vs, H a = some (.lst vs) ∧ Rps W.K H m ds vs
  | .ins c fs => ∃ dx gs, c < W.ncl ∧ H a = some (.ins (W.ca c) dx gs) ∧ Fsr W.K H m fs gs
  | .dct kvs => ∃ xs, H a = some (NdO W.P W.w a xs) ∧ Dent W.K H m kvs xs
  | .dck kvs => ∃ xs, H a = some (.dK xs) ∧ Dkt W.K H m kvs xs
/-- the tables stand, apart from the store -/
def TabZ (T : List (Addr × Str)) (H : Hp) (m : List Addr) : Prop := ∀ p ∈ T, ∃ ps : Array Value, H p.1 = some (.tbl ps) ∧ TriplesOk ps.toList ∧ ∀ (pos : Pos) (cv : Value), codeAmong pos ps.toList = some cv → ∃ c, cv = .ref c ∧ H c = some (LamX.CodeO c p.2) ∧ c ∉ m
structure Sim (W : Wd) (H : Hp) (m : List Addr) (st : Sto) : Prop where
  len : m.length = st.length
  nd : m.Nodup
  ok : ∀ (i : Nat) (c : Cell) (a : Addr), st[i]? = some c → m[i]? = some a → CellOk W H m a c
  tb : TabZ W.T H m
structure Ext (m m' : List Addr) (H H' : Hp) : Prop where
  pre : ∃ l, m' = m ++ l
  keep : ∀ a o, H a = some o → (∀ ps, o ≠ .tbl ps) → a ∉ m → H' a = some o ∧ a ∉ m'
theorem Ext.refl {m : List Addr} {H : Hp} : Ext m m H H := ⟨⟨[], by simp⟩, fun _ _ h _ n => ⟨h, n⟩⟩
theorem Ext.at {m m' : List Addr} {H H' : Hp} (e : Ext m m' H H') {i : Nat} {a : Addr} (h : m[i]? = some a) : m'[i]? = some a := by
  obtain ⟨l, rfl⟩ := e.pre
  rw [List.getElem?_append_left (List.getElem?_eq_some_iff.mp h).1]; exact h
theorem Ext.len {m m' : List Addr} {H H' : Hp} (e : Ext m m' H H') : m.length ≤ m'.length := by
  obtain ⟨l, rfl⟩ := e.pre
  rw [List.length_append]; omega
theorem Ext.trans {m m1 m2 : List Addr} {H H1 H2 : Hp} (a : Ext m m1 H H1) (b : Ext m1 m2 H1 H2) : Ext m m2 H H2 := by
  refine ⟨?_, fun x o h nt n => ?_⟩
  · obtain ⟨l, rfl⟩ := a.pre
    obtain ⟨l', rfl⟩ := b.pre
    exact ⟨l ++ l', by rw [List.append_assoc]⟩
  · obtain ⟨h1, n1⟩ := a.keep x o h nt n
    exact b.keep x o h1 nt n1
/-- what stands at a place of the store -/
def isM : HO → Bool
  | .lst _ => true | .ins _ _ _ => true | .ext _ => true | .dK _ => true
  | _ => false
theorem Sim.mu {W : Wd} {H : Hp} {m : List Addr} {st : Sto} (s : Sim W H m st) {a : Addr} (h : a ∈ m) : ∃ o, H a = some o ∧ isM o = true := by
  obtain ⟨i, hi⟩ := List.getElem?_of_mem h
  have hl : i < st.length := by rw [← s.len]; exact (List.getElem?_eq_some_iff.mp hi).1
  have q := s.ok i st[i] a (List.getElem?_eq_getElem hl) hi
  cases e : st[i] with
  | lst ds => rw [e] at q; obtain ⟨vs, h1, _⟩ := q; exact ⟨_, h1, rfl⟩
  | ins c fs => rw [e] at q; obtain ⟨dx, gs, _, h1, _⟩ := q; exact ⟨_, h1, rfl⟩
  | dct kvs => rw [e] at q; obtain ⟨xs, h1, _⟩ := q; exact ⟨_, h1, rfl⟩
  | dck kvs => rw [e] at q; obtain ⟨xs, h1, _⟩ := q; exact ⟨_, h1, rfl⟩
theorem Sim.nin {W : Wd} {H : Hp} {m : List Addr} {st : Sto} (s : Sim W H m st) {a : Addr} {o : HO} (h : H a = some o) (n : isM o = false) : a ∉ m := fun z => by
  obtain ⟨o', h', n'⟩ := s.mu z
  rw [h] at h'; cases h'; rw [n] at n'; cases n'
theorem TabZ.to {T : List (Addr × Str)} {H H' : Hp} {m m' : List Addr} (t : TabZ T H m) (e : ∀ b o, H b = some o → b ∉ m → (∀ vs, o ≠ .lst vs) → H' b = some o ∧ b ∉ m') (hm : ∀ p ∈ T, p.1 ∉ m) : TabZ T H' m' := fun p hp => by
  obtain ⟨ps, h1, h2, h3⟩ := t p hp
  refine ⟨ps, (e _ _ h1 (hm p hp) (fun _ z => HO.noConfusion z)).1, h2, fun pos cv hc => ?_⟩
  obtain ⟨c, e1, e2, e3⟩ := h3 pos cv hc
  obtain ⟨k1, k2⟩ := e _ _ e2 e3 (fun _ z => HO.noConfusion z)
  exact ⟨c, e1, k1, k2⟩
theorem Sim.tm {W : Wd} {H : Hp} {m : List Addr} {st : Sto} (s : Sim W H m st) : ∀ p ∈ W.T, p.1 ∉ m := fun p hp => by
  obtain ⟨ps, h1, _⟩ := s.tb p hp
  exact s.nin h1 rfl
theorem sqT_up {W : Wd} {H H' : Hp} {m m' : List Addr} {st : Sto} (s : Sim W H m st) (e : Ext m m' H H') {a : Addr} {vs : List V} (h : SqT W.K H a vs) : SqT W.K H' a vs := by
  rcases h with (h | ⟨o, h⟩) | h
  · exact .inl (.inl (e.keep a _ h (fun _ z => HO.noConfusion z) (s.nin h rfl)).1)
  · exact .inl (.inr ⟨o, (e.keep a _ h (fun _ z => HO.noConfusion z) (s.nin h rfl)).1⟩)
  · exact .inr h
theorem sqF_up {W : Wd} {H H' : Hp} {m m' : List Addr} {st : Sto} (s : Sim W H m st) (e : Ext m m' H H') {a : Addr} {vs : List V} (h : SqF W.K H a vs) : SqF W.K H' a vs := by
  rcases h with ⟨o, h⟩ | h
  · exact .inl ⟨o, (e.keep a _ h (fun _ z => HO.noConfusion z) (s.nin h rfl)).1⟩
  · exact .inr h
section
variable {K : PySem.W.Frag} {H H' : Hp} {m m' : List Addr}
mutual
theorem Rp.mono (ht : ∀ a vs, SqT K H a vs → SqT K H' a vs) (hf : ∀ a vs, SqF K H a vs → SqF K H' a vs) (hm : ∀ (n : Nat) (a : Addr), m[n]? = some a → m'[n]? = some a) : ∀ {d : D} {v : V}, Rp K H m d v → Rp K H' m' d v
  | .non, v, h => by rw [Rp] at h ⊢; exact h
  | .bl _, v, h => by rw [Rp] at h ⊢; exact h
  | .int _, v, h => by rw [Rp] at h ⊢; exact h
  | .str _, v, h => by rw [Rp] at h ⊢; exact h
  | .tup ds, v, h => by
    rw [Rp] at h ⊢
    obtain ⟨a, vs, rfl, h1, h2⟩ := h
    exact ⟨a, vs, rfl, ht a vs h1, Rps.mono ht hf hm h2⟩
  | .loc n, v, h => by
    rw [Rp] at h ⊢
    obtain ⟨a, h1, rfl⟩ := h
    exact ⟨a, hm n a h1, rfl⟩
  | .fl ds, v, h => by
    rw [Rp] at h ⊢
    obtain ⟨a, vs, rfl, h1, h2⟩ := h
    exact ⟨a, vs, rfl, hf a vs h1, Rps.mono ht hf hm h2⟩
theorem Rps.mono (ht : ∀ a vs, SqT K H a vs → SqT K H' a vs) (hf : ∀ a vs, SqF K H a vs → SqF K H' a vs) (hm : ∀ (n : Nat) (a : Addr), m[n]? = some a → m'[n]? = some a) : ∀ {ds : List D} {vs : List V}, Rps K H m ds vs → Rps K H' m' ds vs
  | [], vs, h => by rw [Rps] at h ⊢; exact h
  | d :: ds, vs, h => by
    rw [Rps] at h ⊢
    obtain ⟨v, vs', rfl, h1, h2⟩ := h
    exact ⟨v, vs', rfl, Rp.mono ht hf hm h1, Rps.mono ht hf hm h2⟩
end
end
section
variable {W : Wd} {H H' : Hp} {m m' : List Addr} {st : Sto}
theorem Rp.up (s : Sim W H m st) (e : Ext m m' H H') {d : D} {v : V} (h : Rp W.K H m d v) : Rp W.K H' m' d v := h.mono (fun _ _ => sqT_up s e) (fun _ _ => sqF_up s e) (fun _ _ => e.at)
theorem Rps.up (s : Sim W H m st) (e : Ext m m' H H') {ds : List D} {vs : List V} (h : Rps W.K H m ds vs) : Rps W.K H' m' ds vs := h.mono (fun _ _ => sqT_up s e) (fun _ _ => sqF_up s e) (fun _ _ => e.at)
theorem Dent.mono (ht : ∀ a vs, SqT W.K H a vs → SqT W.K H' a vs) (hf : ∀ a vs, SqF W.K H a vs → SqF W.K H' a vs) (hm : ∀ (n : Nat) (a : Addr), m[n]? = some a → m'[n]? = some a) : ∀ {kvs : List (D × D)} {xs : NdX}, Dent W.K H m kvs xs → Dent W.K H' m' kvs xs
  | [], xs, h => h
  | (k, d) :: r, xs, h => by
    obtain ⟨nk, ka, u, v, xs', h1, h2, h3, h4, h5, h6, h7⟩ := h
    exact ⟨nk, ka, u, v, xs', h1, h2, h3, h4.mono ht hf hm, h5, h6.mono ht hf hm, Dent.mono ht hf hm h7⟩
theorem Dkt.mono (ht : ∀ a vs, SqT W.K H a vs → SqT W.K H' a vs) (hf : ∀ a vs, SqF W.K H a vs → SqF W.K H' a vs) (hm : ∀ (n : Nat) (a : Addr), m[n]? = some a → m'[n]? = some a) : ∀ {kvs : List (D × D)} {xs : List (Key × V)}, Dkt W.K H m kvs xs → Dkt W.K H' m' kvs xs
  | [], xs, h => h
  | (k, d) :: r, xs, h => by
    obtain ⟨ky, v, xs', h1, h2, h6, h7⟩ := h
    exact ⟨ky, v, xs', h1, h2, h6.mono ht hf hm, Dkt.mono ht hf hm h7⟩
theorem Dent.up (s : Sim W H m st) (e : Ext m m' H H') {kvs : List (D × D)} {xs : NdX} (h : Dent W.K H m kvs xs) : Dent W.K H' m' kvs xs := h.mono (fun _ _ => sqT_up s e) (fun _ _ => sqF_up s e) (fun _ _ => e.at)
theorem Dkt.up (s : Sim W H m st) (e : Ext m m' H H') {kvs : List (D × D)} {xs : List (Key × V)} (h : Dkt W.K H m kvs xs) : Dkt W.K H' m' kvs xs := h.mono (fun _ _ => sqT_up s e) (fun _ _ => sqF_up s e) (fun _ _ => e.at)
theorem Fsr.up (s : Sim W H m st) (e : Ext m m' H H') {fs : List (Str × D)} {gs : List (Str × V)} (h : Fsr W.K H m fs gs) : Fsr W.K H' m' fs gs := ⟨h.1, Rps.up s e h.2⟩
theorem CellOk.up (s : Sim W H m st) (e : Ext m m' H H') {a : Addr} (ha : H' a = H a) {c : Cell} (h : CellOk W H m a c) : CellOk W H' m' a c := by
  cases c with
  | lst ds =>
    obtain ⟨vs, h1, h2⟩ := h
    exact ⟨vs, ha.trans h1, h2.up s e⟩
  | ins c fs =>
    obtain ⟨dx, gs, hc, h1, h2⟩ := h
    exact ⟨dx, gs, hc, ha.trans h1, h2.up s e⟩
  | dct kvs =>
    obtain ⟨xs, h1, h2⟩ := h
    exact ⟨xs, ha.trans h1, h2.up s e⟩
  | dck kvs =>
    obtain ⟨xs, h1, h2⟩ := h
    exact ⟨xs, ha.trans h1, h2.up s e⟩
/-- a new thing is laid, which the store doesn't hold -/
theorem Sim.laid (s : Sim W H m st) {p : Addr} (hp : H p = none) (o : HO) : Sim W (upd H p o) m st ∧ Ext m m H (upd H p o) := by
  have e : Ext m m H (upd H p o) := ⟨⟨[], by simp⟩, fun a u h _ n => ⟨by rw [upd_ne (ne_of_none h hp)]; exact h, n⟩⟩
  refine ⟨⟨s.len, s.nd, fun i c a h1 h2 => (s.ok i c a h1 h2).up s e ?_, s.tb.to (fun b u h n _ => ⟨by rw [upd_ne (ne_of_none h hp)]; exact h, n⟩) s.tm⟩, e⟩
  obtain ⟨u, hu, _⟩ := s.mu (List.mem_of_getElem? h2)
  exact upd_ne (ne_of_none hu hp)
/-- a new thing is laid, which the store holds -/
theorem Sim.push (s : Sim W H m st) {p : Addr} (hp : H p = none) {o : HO} {c : Cell} (hc : CellOk W (upd H p o) (m ++ [p]) p c) : Sim W (upd H p o) (m ++ [p]) (st ++ [c]) ∧ Ext m (m ++ [p]) H (upd H p o) := by
  have np : ∀ a ∈ m, a ≠ p := fun a ha z => by
    obtain ⟨u, hu, _⟩ := s.mu ha
    rw [z, hp] at hu; cases hu
  have e : Ext m (m ++ [p]) H (upd H p o) := ⟨⟨[p], rfl⟩, fun a u h _ n => ⟨by rw [upd_ne (ne_of_none h hp)]; exact h, by
    simp only [List.mem_append, List.mem_singleton, not_or]
    exact ⟨n, ne_of_none h hp⟩⟩⟩
  refine ⟨⟨by simp [s.len], ?_, fun i c' a h1 h2 => ?_, s.tb.to (fun b u h n _ => ⟨by rw [upd_ne (ne_of_none h hp)]; exact h, by
    simp only [List.mem_append, List.mem_singleton, not_or]
    exact ⟨n, ne_of_none h hp⟩⟩) s.tm⟩, e⟩
  · rw [List.nodup_append]
    refine ⟨s.nd, by simp, fun a ha b hb => ?_⟩
    simp only [List.mem_singleton] at hb
    rw [hb]; exact np a ha
  · by_cases hi : i < st.length
    · rw [List.getElem?_append_left hi] at h1
      rw [List.getElem?_append_left (by rw [s.len]; exact hi)] at h2
      exact (s.ok i c' a h1 h2).up s e (upd_ne (np a (List.mem_of_getElem? h2)))
    · have hi' : i = st.length := by
        have := (List.getElem?_eq_some_iff.mp h1).1
        simp at this; omega
      subst hi'
      rw [List.getElem?_append_right (Nat.le_refl _)] at h1
      rw [List.getElem?_append_right (by rw [s.len]; exact Nat.le_refl _)] at h2
      simp [s.len] at h1 h2
      subst h1; subst h2
      exact hc
/-- a thing of the store changes -/
theorem Sim.write (s : Sim W H m st) {n : Nat} {a : Addr} (ha : m[n]? = some a) {o : HO} {c : Cell} (hc : CellOk W (upd H a o) m a c) : Sim W (upd H a o) m (st.set n c) ∧ Ext m m H (upd H a o) := by
  have e : Ext m m H (upd H a o) := ⟨⟨[], by simp⟩, fun b u h _ nn => ⟨by
    rw [upd_ne fun z => nn (by rw [z]; exact List.mem_of_getElem? ha)]; exact h, nn⟩⟩
  refine ⟨⟨by simp [s.len], s.nd, fun i c' b h1 h2 => ?_, s.tb.to (fun b u h nn _ => ⟨by
    rw [upd_ne fun z => nn (by rw [z]; exact List.mem_of_getElem? ha)]; exact h, nn⟩) s.tm⟩, e⟩
  by_cases hi : i = n
  · subst hi
    rw [ha] at h2; cases h2
    rw [List.getElem?_set_self (by rw [← s.len]; exact (List.getElem?_eq_some_iff.mp ha).1)] at h1
    cases h1
    exact hc
  · rw [List.getElem?_set_ne (Ne.symm hi)] at h1
    refine (s.ok i c' b h1 h2).up s e (upd_ne fun z => hi ?_)
    subst z
    obtain ⟨h3, e3⟩ := List.getElem?_eq_some_iff.mp h2
    obtain ⟨h4, e4⟩ := List.getElem?_eq_some_iff.mp ha
    exact (List.getElem_inj s.nd).mp (e3.trans e4.symm)
theorem Sim.at (s : Sim W H m st) {n : Nat} {c : Cell} (h : st[n]? = some c) : ∃ a, m[n]? = some a ∧ CellOk W H m a c := by
  have hl : n < m.length := by rw [s.len]; exact (List.getElem?_eq_some_iff.mp h).1
  exact ⟨m[n], List.getElem?_eq_getElem hl, s.ok n c _ h (List.getElem?_eq_getElem hl)⟩
/-- a list that the store doesn't hold changes -/
theorem sqT_off {K : PySem.W.Frag} {D0 : Addr} {acc : List V} {o : HO} (hD : H D0 = some (.lst acc)) {a : Addr} {vs : List V} (h : SqT K H a vs) : SqT K (upd H D0 o) a vs := by
  rcases h with (h | ⟨u, h⟩) | h
  · exact .inl (.inl (by rw [upd_ne fun z => by rw [z, hD] at h; cases h]; exact h))
  · exact .inl (.inr ⟨u, by rw [upd_ne fun z => by rw [z, hD] at h; cases h]; exact h⟩)
  · exact .inr h
theorem sqF_off {K : PySem.W.Frag} {D0 : Addr} {acc : List V} {o : HO} (hD : H D0 = some (.lst acc)) {a : Addr} {vs : List V} (h : SqF K H a vs) : SqF K (upd H D0 o) a vs := by
  rcases h with ⟨u, h⟩ | h
  · exact .inl ⟨u, by rw [upd_ne fun z => by rw [z, hD] at h; cases h]; exact h⟩
  · exact .inr h
theorem Rp.off {K : PySem.W.Frag} {D0 : Addr} {acc : List V} {o : HO} (hD : H D0 = some (.lst acc)) {d : D} {v : V} (h : Rp K H m d v) : Rp K (upd H D0 o) m d v := h.mono (fun _ _ => sqT_off hD) (fun _ _ => sqF_off hD) fun _ _ z => z
theorem Rps.off {K : PySem.W.Frag} {D0 : Addr} {acc : List V} {o : HO} (hD : H D0 = some (.lst acc)) {d : List D} {v : List V} (h : Rps K H m d v) : Rps K (upd H D0 o) m d v := h.mono (fun _ _ => sqT_off hD) (fun _ _ => sqF_off hD) fun _ _ z => z
theorem Sim.off (s : Sim W H m st) {D0 : Addr} {acc : List V} {o : HO} (hD : H D0 = some (.lst acc)) (hn : D0 ∉ m) : Sim W (upd H D0 o) m st := by
  refine ⟨s.len, s.nd, fun i c a h1 h2 => ?_, s.tb.to (fun b u h nn nl => ⟨by rw [upd_ne fun z => by rw [z, hD] at h; cases h; exact nl _ rfl]; exact h, nn⟩) s.tm⟩
  have hne : a ≠ D0 := fun z => hn (by rw [← z]; exact List.mem_of_getElem? h2)
  have q := s.ok i c a h1 h2
  cases c with
  | lst ds =>
    obtain ⟨vs, h3, h4⟩ := q
    exact ⟨vs, by rw [upd_ne hne]; exact h3, h4.off hD⟩
  | ins c fs =>
    obtain ⟨dx, gs, hc, h3, h4⟩ := q
    exact ⟨dx, gs, hc, by rw [upd_ne hne]; exact h3, h4.1, h4.2.off hD⟩
  | dct kvs =>
    obtain ⟨xs, h3, h4⟩ := q
    exact ⟨xs, by rw [upd_ne hne]; exact h3, h4.mono (fun _ _ => sqT_off hD) (fun _ _ => sqF_off hD) fun _ _ z => z⟩
  | dck kvs =>
    obtain ⟨xs, h3, h4⟩ := q
    exact ⟨xs, by rw [upd_ne hne]; exact h3, h4.mono (fun _ _ => sqT_off hD) (fun _ _ => sqF_off hD) fun _ _ z => z⟩
theorem Ext.off {H1 : Hp} {m1 : List Addr} (e : Ext m1 m H1 H) {D0 : Addr} {o : HO} (hD : H1 D0 = none) : Ext m1 m H1 (upd H D0 o) := ⟨e.pre, fun a u h nt n => by
  obtain ⟨h2, n2⟩ := e.keep a u h nt n
  exact ⟨by rw [upd_ne (ne_of_none h hD)]; exact h2, n2⟩⟩
/-- it comes to be held -/
theorem Sim.adopt (s : Sim W H m st) {D0 : Addr} {vs : List V} {xs : List D} (hD : H D0 = some (.lst vs)) (hn : D0 ∉ m) (r : Rps W.K H m xs vs) : Sim W H (m ++ [D0]) (st ++ [.lst xs]) := by
  have upm : ∀ (n : Nat) (a : Addr), m[n]? = some a → (m ++ [D0])[n]? = some a := fun n a z => by
    rw [List.getElem?_append_left (List.getElem?_eq_some_iff.mp z).1]; exact z
  have up : ∀ {ds : List D} {us : List V}, Rps W.K H m ds us → Rps W.K H (m ++ [D0]) ds us := fun h => h.mono (fun _ _ z => z) (fun _ _ z => z) upm
  refine ⟨by simp [s.len], ?_, fun i c' a h1 h2 => ?_, s.tb.to (fun b u h nn nl => ⟨h, by
    simp only [List.mem_append, List.mem_singleton, not_or]
    exact ⟨nn, fun z => by rw [z, hD] at h; cases h; exact nl _ rfl⟩⟩) s.tm⟩
  · rw [List.nodup_append]
    refine ⟨s.nd, by simp, fun a ha b hb => ?_⟩
    simp only [List.mem_singleton] at hb
    rw [hb]; exact fun z => hn (by rw [← z]; exact ha)
  · by_cases hi : i < st.length
    · rw [List.getElem?_append_left hi] at h1
      rw [List.getElem?_append_left (by rw [s.len]; exact hi)] at h2
      have q := s.ok i c' a h1 h2
      cases c' with
      | lst ds => obtain ⟨us, h3, h4⟩ := q; exact ⟨us, h3, up h4⟩
      | ins c fs => obtain ⟨dx, gs, hc, h3, h4⟩ := q; exact ⟨dx, gs, hc, h3, h4.1, up h4.2⟩
      | dct kvs => obtain ⟨xs, h3, h4⟩ := q; exact ⟨xs, h3, h4.mono (fun _ _ z => z) (fun _ _ z => z) upm⟩
      | dck kvs => obtain ⟨xs, h3, h4⟩ := q; exact ⟨xs, h3, h4.mono (fun _ _ z => z) (fun _ _ z => z) upm⟩
    · have hi' : i = st.length := by
        have := (List.getElem?_eq_some_iff.mp h1).1
        simp at this; omega
      subst hi'
      rw [List.getElem?_append_right (Nat.le_refl _)] at h1
      rw [List.getElem?_append_right (by rw [s.len]; exact Nat.le_refl _)] at h2
      simp [s.len] at h1 h2
      subst h1; subst h2
      exact ⟨vs, hD, up r⟩
theorem Ext.adopt {H1 : Hp} {m1 : List Addr} (e : Ext m1 m H1 H) {D0 : Addr} (hD : H1 D0 = none) : Ext m1 (m ++ [D0]) H1 H := by
  refine ⟨?_, fun a u h nt n => ?_⟩
  · obtain ⟨l, rfl⟩ := e.pre
    exact ⟨l ++ [D0], by rw [List.append_assoc]⟩
  · obtain ⟨h2, n2⟩ := e.keep a u h nt n
    refine ⟨h2, ?_⟩
    simp only [List.mem_append, List.mem_singleton, not_or]
    exact ⟨n2, ne_of_none h hD⟩
end
end Z
namespace Z
open PySem L2
/-! ### what an answer promises -/
def ExR (W : Wd) (H : Hp) (m : List Addr) (e : Ex) (dx : Option Addr) : Prop := match e.f with
  | none => dx = none
  | some (f, d) => ∃ a v, dx = some a ∧ H a = some (.xd [(f, v)]) ∧ Rp W.K H m d v
def Pg {α : Type} (W : Wd) (E : XK) (m : List Addr) (H : Hp) (r : R α) (k : α → List Addr → Sto → Hp → Prop) : Prop := match r with
  | .ok a st => ∀ H' m', Ext m m' H H' → Sim W H' m' st → k a m' st H'
  | .exc e st => ∀ dx H' m', Ext m m' H H' → Sim W H' m' st → ExR W H' m' e dx → E (.ref (W.ca e.c)) dx H'
  | .stuck => False
/-- .. a value -/
def kD (W : Wd) (Q : VK) : D → List Addr → Sto → Hp → Prop := fun d m _ H => ∀ v, Rp W.K H m d v → Q v H
section
variable {W : Wd} {E : XK} {m m' : List Addr} {H H' : Hp} {α β : Type}
theorem Pg.up {r : R α} {k : α → List Addr → Sto → Hp → Prop} (e : Ext m m' H H') (h : Pg W E m H r k) : Pg W E m' H' r k := by
  cases r with
  | ok a st => exact fun H2 m2 e2 s2 => h H2 m2 (e.trans e2) s2
  | exc x st => exact fun dx H2 m2 e2 s2 => h dx H2 m2 (e.trans e2) s2
  | stuck => exact h
theorem Pg.bind {r : R α} {f : α → Sto → R β} {k : β → List Addr → Sto → Hp → Prop} (h : Pg W E m H (r.bind f) k) : Pg W E m H r fun a m' st' H' => Pg W E m' H' (f a st') k := by
  cases r with
  | ok a st => exact fun H2 m2 e2 s2 => Pg.up e2 h
  | exc x st => exact h
  | stuck => exact h
theorem Pg.imp {r : R α} {k k' : α → List Addr → Sto → Hp → Prop} (h : Pg W E m H r k) (q : ∀ a m' st' H', Ext m m' H H' → Sim W H' m' st' → k a m' st' H' → k' a m' st' H') : Pg W E m H r k' := by
  cases r with
  | ok a st => exact fun H2 m2 e2 s2 => q a m2 st H2 e2 s2 (h H2 m2 e2 s2)
  | exc x st => exact h
  | stuck => exact h
theorem Pg.now {a : α} {st : Sto} {k : α → List Addr → Sto → Hp → Prop} (h : Pg W E m H (.ok a st) k) (s : Sim W H m st) : k a m st H := h H m Ext.refl s
theorem Pg.go {a : α} {st : Sto} {k : α → List Addr → Sto → Hp → Prop} (h : Pg W E m H (.ok a st) k) (e : Ext m m' H H') (s : Sim W H' m' st) : k a m' st H' := h H' m' e s
theorem Pg.ite {c : Prop} [Decidable c] {a : R α} {k : α → List Addr → Sto → Hp → Prop} (h : Pg W E m H (if c then a else .stuck) k) : c ∧ Pg W E m H a k := by
  by_cases hc : c
  · rw [if_pos hc] at h; exact ⟨hc, h⟩
  · rw [if_neg hc] at h; exact h.elim
theorem Pg.ofO {o : Option α} {st : Sto} {f : α → Sto → R β} {k : β → List Addr → Sto → Hp → Prop} (h : Pg W E m H ((ofO st o).bind f) k) : ∃ a, o = some a ∧ Pg W E m H (f a st) k := by
  cases o with
  | some a => exact ⟨a, rfl, h⟩
  | none => exact h.elim
end

/-! ### names -/
def EnvR (W : Wd) (H : Hp) (m : List Addr) (ρ : Env) (σ : L2.St) : Prop := ρ.length = σ.length ∧ ∀ (i : Nat) (d : D), ρ[i]? = some (some d) → ∃ v, σ[i]? = some (some v) ∧ Rp W.K H m d v
section
variable {W : Wd} {m m' : List Addr} {H H' : Hp} {ρ : Env} {σ : L2.St} {st : Sto}
theorem EnvR.up (s : Sim W H m st) (e : Ext m m' H H') (h : EnvR W H m ρ σ) : EnvR W H' m' ρ σ := ⟨h.1, fun i d q => by
  obtain ⟨v, h1, h2⟩ := h.2 i d q
  exact ⟨v, h1, h2.up s e⟩⟩
theorem EnvR.set (h : EnvR W H m ρ σ) {i : Nat} {d : D} {v : V} (r : Rp W.K H m d v) : EnvR W H m (ρ.set i (some d)) (σ.set i (some v)) := by
  refine ⟨by simp [h.1], fun j e q => ?_⟩
  by_cases hj : j = i
  · subst hj
    have hl : j < ρ.length := by
      have := (List.getElem?_eq_some_iff.mp q).1
      simpa using this
    rw [List.getElem?_set_self hl] at q
    cases q
    exact ⟨v, by rw [List.getElem?_set_self (by rw [← h.1]; exact hl)], r⟩
  · rw [List.getElem?_set_ne (Ne.symm hj)] at q ⊢
    exact h.2 j e q
theorem EnvR.set_none (h : EnvR W H m ρ σ) {i : Nat} : EnvR W H m (ρ.set i none) (σ.set i none) := by
  refine ⟨by simp [h.1], fun j e q => ?_⟩
  by_cases hj : j = i
  · subst hj
    have hl : j < ρ.length := by
      have := (List.getElem?_eq_some_iff.mp q).1
      simpa using this
    rw [List.getElem?_set_self hl] at q
    cases q
  · rw [List.getElem?_set_ne (Ne.symm hj)] at q ⊢
    exact h.2 j e q
theorem EnvR.wipe (h : EnvR W H m ρ σ) : ∀ vs : List Nat, EnvR W H m (wipeE ρ vs) (L2.wipe σ vs)
  | [] => h
  | v :: vs => by
    unfold wipeE L2.wipe
    exact (EnvR.wipe h vs).set_none
end

/-! ### the readings -/
def tE (W : Wd) (E : XK) (f : Env → Sto → R D) : TE := fun σ H Q => ∃ m ρ st, Sim W H m st ∧ EnvR W H m ρ σ ∧ Pg W E m H (f ρ st) (kD W Q)
abbrev kB (Q : Bool → Hp → Prop) : Bool → List Addr → Sto → Hp → Prop := fun b _ _ H => Q b H
def tT (W : Wd) (E : XK) (f : Env → Sto → R Bool) : TT := fun σ H Q => ∃ m ρ st, Sim W H m st ∧ EnvR W H m ρ σ ∧ Pg W E m H (f ρ st) (kB Q)
def tA (W : Wd) (E : XK) (f : Env → Sto → R (List D)) : TA := fun σ H Q => ∃ m ρ st, Sim W H m st ∧ EnvR W H m ρ σ ∧ Pg W E m H (f ρ st) fun ds m' _ H' => ∀ vs, Rps W.K H' m' ds vs → Q vs H'
def tO (W : Wd) (E : XK) (f : Env → Sto → R (Option Int)) : TO := fun σ H Q => ∃ m ρ st, Sim W H m st ∧ EnvR W H m ρ σ ∧ Pg W E m H (f ρ st) fun o _ _ H' => Q o H'
theorem PE.weak {X : Cx} {e : Expr} {t t' : TE} (h : PE X e t) (q : ∀ σ H Q, t' σ H Q → t σ H Q) : PE X e t' := ⟨fun pins s σ H Q I w => h.run pins s σ H Q I (q σ H Q w)⟩
theorem PT.weak {X : Cx} {e : Expr} {t t' : TT} (h : PT X e t) (q : ∀ σ H Q, t' σ H Q → t σ H Q) : PT X e t' := ⟨fun pins s σ H Q I w => h.run pins s σ H Q I (q σ H Q w)⟩
theorem PW.weak {X : Cx} {e : Expr} {t t' : TT} (h : PW X e t) (q : ∀ σ H Q, t' σ H Q → t σ H Q) : PW X e t' := ⟨fun wh pins s σ H Q I w => h.run wh pins s σ H Q I (q σ H Q w)⟩
theorem PA.weak {X : Cx} {e : List Expr} {t t' : TA} (h : PA X e t) (q : ∀ σ H Q, t' σ H Q → t σ H Q) : PA X e t' := ⟨fun p pins s σ H Q I w => h.run p pins s σ H Q I (q σ H Q w)⟩
theorem PO.weak {X : Cx} {e : Option Expr} {t t' : TO} (h : PO X e t) (q : ∀ σ H Q, t' σ H Q → t σ H Q) : PO X e t' := ⟨fun pins s σ H Q I w => h.run pins s σ H Q I (q σ H Q w)⟩
theorem PS.weak {X : Cx} {e : Stmt} {t t' : TS} (h : PS X e t) (q : ∀ D σ H, t' D σ H → t D σ H) : PS X e t' := ⟨fun pins s σ H D I w => h.run pins s σ H D I (q D σ H w)⟩
theorem PSs.weak {X : Cx} {e : List Stmt} {t t' : TS} (h : PSs X e t) (q : ∀ D σ H, t' D σ H → t D σ H) : PSs X e t' := ⟨fun pins s σ H D I w => h.run pins s σ H D I (q D σ H w)⟩
section
variable {W : Wd} {E : XK} {f g : Env → Sto → R D} {σ : L2.St} {H : Hp}
/-- one operand, then something by its value -/
theorem tE.one {h : D → Sto → R D} {Q : VK} {k : V → Hp → Prop} (w : tE W E (fun ρ st => (f ρ st).bind h) σ H Q)
    (q : ∀ m st H d v, Sim W H m st → Rp W.K H m d v → Pg W E m H (h d st) (kD W Q) → k v H) : tE W E f σ H k := by
  obtain ⟨m, ρ, st, s, r, p⟩ := w
  exact ⟨m, ρ, st, s, r, p.bind.imp fun d m' st' H' _ s' p' v rv => q m' st' H' d v s' rv p'⟩
/-- two operands -/
theorem tE.two {h : D → D → Sto → R D} {Q : VK} {k : V → V → Hp → Prop} (w : tE W E (fun ρ st => (f ρ st).bind fun x st => (g ρ st).bind fun y st => h x y st) σ H Q)
    (q : ∀ m st H d v e u, Sim W H m st → Rp W.K H m d v → Rp W.K H m e u → Pg W E m H (h d e st) (kD W Q) → k v u H) : tE W E f σ H fun x H1 => tE W E g σ H1 fun y H2 => k x y H2 := by
  obtain ⟨m, ρ, st, s, r, p⟩ := w
  refine ⟨m, ρ, st, s, r, p.bind.imp fun d m1 st1 H1 e1 s1 p1 v rv => ?_⟩
  exact ⟨m1, ρ, st1, s1, r.up s e1, p1.bind.imp fun e m2 st2 H2 e2 s2 p2 u ru => q m2 st2 H2 d v e u s2 (rv.up s1 e2) ru p2⟩
end

/-! ### the operators by values -/
section
variable {W : Wd} {E : XK} {X : Cx} {m : List Addr} {H : Hp} {st : Sto} {Q : VK}
theorem lim_le {n : Nat} (h : n ≤ LIM) : n ≤ sizeLine := by rw [sizeLine_eq]; exact Nat.le_trans h (by decide)
theorem lim_lt {n : Nat} (h : n < LIM) : n < sizeLine := by rw [sizeLine_eq]; exact Nat.lt_of_lt_of_le h (by decide)
theorem sOf_len (x : Tx) : (sOf x).length = x.length := by show x.toArray.size = x.length; simp
theorem sOf_app (x y : Tx) : sOf x ++ sOf y = sOf (x ++ y) := by
  show Str.mk (x.toArray ++ y.toArray) = Str.mk (x ++ y).toArray
  simp
theorem kD_now {d : D} {v : V} (h : Pg W E m H (.ok d st) (kD W Q)) (s : Sim W H m st) (r : Rp W.K H m d v) : Q v H := h.now s v r
theorem Rp.tup_ref {K : PySem.W.Frag} {ds : List D} {v : V} (h : Rp K H m (.tup ds) v) : ∃ a vs, v = .ref a ∧ SqT K H a vs ∧ Rps K H m ds vs := by rw [Rp] at h; exact h
/-- a new tuple at p -/
theorem new_tup (s : Sim W H m st) {p : Addr} (hp : H p = none) {ds : List D} {vs : List V} (r : Rps W.K H m ds vs) (h : Pg W E m H (.ok (.tup ds) st) (kD W Q)) : Q (.ref p) (upd H p (.tup vs)) := by
  obtain ⟨s', e⟩ := s.laid hp (.tup vs)
  exact h.go e s' _ (by rw [Rp]; exact ⟨p, vs, rfl, SqT.of upd_same, r.up s e⟩)
/-- a new list at p -/
theorem new_lst (s : Sim W H m st) {p : Addr} (hp : H p = none) {ds : List D} {vs : List V} (r : Rps W.K H m ds vs) (h : Pg W E m H (.ok (.loc st.length) (st ++ [.lst ds])) (kD W Q)) : Q (.ref p) (upd H p (.lst vs)) := by
  have e0 : Ext m (m ++ [p]) H (upd H p (.lst vs)) := by
    refine ⟨⟨[p], rfl⟩, fun a u h _ n => ⟨by rw [upd_ne (ne_of_none h hp)]; exact h, ?_⟩⟩
    simp only [List.mem_append, List.mem_singleton, not_or]
    exact ⟨n, ne_of_none h hp⟩
  obtain ⟨s', e⟩ := s.push hp (c := .lst ds) (o := .lst vs) ⟨vs, upd_same, r.up s e0⟩
  refine h.go e s' (.ref p) ?_
  rw [Rp]
  refine ⟨p, ?_, rfl⟩
  rw [List.getElem?_append_right (by rw [s.len]; exact Nat.le_refl _), s.len]
  simp

/-- o by values -/
theorem foldl_cps (x : Str) : ∀ (n : Nat) (acc : Array Nat), ((List.replicate n x.cps).foldl (· ++ ·) acc).toList = acc.toList ++ (List.replicate n x.cps.toList).flatten
  | 0, acc => by simp
  | n + 1, acc => by rw [List.replicate_succ, List.foldl_cons, foldl_cps x n, List.replicate_succ, List.flatten_cons, Array.toList_append, List.append_assoc]
def rRepS : R2 := fun x y H Q => ∃ (z : Tx) (k : Int), x = .str (sOf z) ∧ y = .int k ∧ z ≠ [] ∧ 2 ≤ k ∧ k ≤ 1000 ∧ z.length ≤ 100 ∧ Q (.str (sOf (List.replicate k.toNat z).flatten)) H
theorem op_repS {X : Cx} : OpR X (binaryOp .Mult) rRepS := by
  intro pins s σ H x y v u Q I rx ry h
  obtain ⟨z, k, rfl, rfl, hz, h2, h3, hl, q⟩ := h
  obtain ⟨t, rfl⟩ := rx
  obtain ⟨t2, rfl⟩ := ry
  have hlen : (sOf z).length = z.length := by simp [sOf, Str.length]
  have h1 : ¬ k < 1 := by omega
  have h5 : (k == 1 || (sOf z).length == 0) = false := by
    rw [hlen]
    have : z.length ≠ 0 := by simpa using hz
    simp [this]; omega
  refine P.mul_str (by simp; omega) (fun _ _ => ?_) (fun _ _ => ?_) ?_
  · rw [hlen]
    have := Int.le_ediv_of_mul_le (a := (z.length : Int)) (b := 2 ^ 63 - 1) (c := k) (by omega) (by
      have : (z.length : Int) * k ≤ 100 * 1000 := Int.mul_le_mul (by omega) h3 (by omega) (by omega)
      omega)
    omega
  · rw [hlen]
    have h6 : z.length * k.toNat ≤ 100 * 1000 := Nat.mul_le_mul hl (by omega)
    unfold Builtin.Str.tooLong
    rw [sizeLine_eq]
    exact decide_eq_false (by omega)
  · rw [if_neg h1, if_neg (by rw [h5]; exact Bool.false_ne_true)]
    have e : (⟨(List.replicate k.toNat (sOf z).cps).foldl (· ++ ·) #[]⟩ : Str) = sOf (List.replicate k.toNat z).flatten := by
      unfold sOf
      congr 1
      apply Array.toList_inj.mp
      rw [foldl_cps ⟨z.toArray⟩]
      simp
    rw [e]
    refine ⟨?_, .str _, H, I.tok _, ⟨_, rfl⟩, q⟩
    show (List.replicate k.toNat z).flatten.toArray.size ≤ _
    rw [List.size_toArray, List.length_flatten, List.map_replicate, List.sum_replicate_nat, sizeLine_eq]
    have h6 : k.toNat * z.length ≤ 1000 * 100 := Nat.mul_le_mul (by omega) hl
    omega
def rBin (W : Wd) (o : BOp) : R2 := fun x y H Q => match o with
  | .add => (∃ i j, x = .int i ∧ y = .int j ∧ Q (.int (i + j)) H) ∨ (∃ i j, x = .str i ∧ y = .str j ∧ i.length + j.length ≤ sizeLine ∧ Q (.str (i ++ j)) H) ∨ rCatA W.K x y H Q ∨ rCat x y H Q
  | .sub => ∃ i j, x = .int i ∧ y = .int j ∧ Q (.int (i - j)) H
  | .mul => (∃ i j, x = .int i ∧ y = .int j ∧ CMul i j ∧ Q (.int (i * j)) H) ∨ rRepT W.K x y H Q ∨ rRepS x y H Q
  | .fdiv => ∃ i j, x = .int i ∧ y = .int j ∧ CDiv i j ∧ Q (.int (i / j)) H
  | .mod => ∃ i j, x = .int i ∧ y = .int j ∧ 0 < j ∧ Q (.int (i % j)) H
theorem op_rBin {o : BOp} {op : Operator} (h : opOk o op = true) (hK : X.K = W.K) : OpR X (binaryOp op) (rBin W o) := by
  cases o <;> cases op <;> simp [opOk] at h
  · have q := (op_add (X := X)).or ((op_add_str (X := X)).or ((op_catA (X := X)).or (op_cat (X := X))))
    rw [hK] at q
    exact q
  · exact op_sub
  · have q := (op_mul (X := X)).or ((op_repT (X := X)).or (op_repS (X := X)))
    rw [hK] at q
    exact q
  · exact op_fdiv
  · exact op_mod
theorem Rps.rep {K : PySem.W.Frag} {ds : List D} {vs : List V} (h : Rps K H m ds vs) : ∀ n : Nat, Rps K H m (List.replicate n ds).flatten (List.replicate n vs).flatten
  | 0 => by rw [List.replicate_zero, List.replicate_zero]; show Rps K H m [] []; rw [Rps]
  | n + 1 => by rw [List.replicate_succ, List.replicate_succ, List.flatten_cons, List.flatten_cons]; exact h.append (Rps.rep h n)
theorem bin_ok {o : BOp} {d e : D} {v u : V} (s : Sim W H m st) (r1 : Rp W.K H m d v) (r2 : Rp W.K H m e u) (h : Pg W E m H (binD o d e st) (kD W Q)) : rBin W o v u H Q := by
  unfold binD at h
  split at h
  · rw [Rp] at r1 r2; subst r1 r2
    exact .inl ⟨_, _, rfl, rfl, kD_now h s (by rw [Rp])⟩
  · obtain ⟨c, h⟩ := h.ite
    rw [Rp] at r1 r2; subst r1 r2
    exact .inr (.inl ⟨_, _, rfl, rfl, by rw [sOf_len, sOf_len]; exact lim_le c, kD_now h s (by rw [Rp, sOf_app])⟩)
  · obtain ⟨c, h⟩ := h.ite
    obtain ⟨a, vs, rfl, h1, h2⟩ := r1.tup_ref
    obtain ⟨b, us, rfl, g1, g2⟩ := r2.tup_ref
    refine .inr (.inr (.inl ⟨a, b, vs, us, rfl, rfl, h1, g1, by rw [h2.len, g2.len]; exact lim_le c, fun e => ?_, fun _ e => ?_, fun _ _ p hp => new_tup s hp (h2.append g2) h⟩))
    · subst e
      refine kD_now h s ?_
      have := h2.append g2
      rw [Rp]; exact ⟨b, us, rfl, g1, this⟩
    · subst e
      refine kD_now h s ?_
      have := h2.append g2
      rw [List.append_nil] at this
      rw [Rp]; exact ⟨a, vs, rfl, h1, this⟩
  · split at h
    · rename_i ha hb
      obtain ⟨c, h⟩ := h.ite
      obtain ⟨a, k1, vs, k2, k3⟩ := s.at ha
      obtain ⟨b, l1, us, l2, l3⟩ := s.at hb
      rw [Rp] at r1 r2
      obtain ⟨a', ea, rfl⟩ := r1
      obtain ⟨b', eb, rfl⟩ := r2
      rw [k1] at ea; cases ea
      rw [l1] at eb; cases eb
      exact .inr (.inr (.inr ⟨a, b, vs, us, rfl, rfl, k2, l2, by rw [k3.len, l3.len]; exact lim_le c, fun p hp => new_lst s hp (k3.append l3) h⟩))
    · exact h.elim
  · rw [Rp] at r1 r2; subst r1 r2
    exact ⟨_, _, rfl, rfl, kD_now h s (by rw [Rp])⟩
  · obtain ⟨c, h⟩ := h.ite
    rw [Rp] at r1 r2; subst r1 r2
    exact .inl ⟨_, _, rfl, rfl, c, kD_now h s (by rw [Rp])⟩
  · obtain ⟨c, h⟩ := h.ite
    simp only [Rp] at r1 r2; subst r1 r2
    exact .inr (.inr ⟨_, _, rfl, rfl, c.1, c.2.1, c.2.2.1, c.2.2.2, kD_now h s (by rw [Rp])⟩)
  · obtain ⟨c, h⟩ := h.ite
    obtain ⟨a, vs, rfl, h1, h2⟩ := r1.tup_ref
    rw [Rp] at r2; subst r2
    obtain ⟨c1, c2, c3, c4⟩ := c
    refine .inr (.inl ⟨a, _, vs, rfl, rfl, h1, fun z => c1 ?_, c2, c3, by rw [h2.len]; exact c4, fun p hp => new_tup s hp (Rps.rep h2 _) h⟩)
    have := h2.len
    rw [z] at this
    exact List.eq_nil_of_length_eq_zero this.symm
  · obtain ⟨c, h⟩ := h.ite
    rw [Rp] at r1 r2; subst r1 r2
    exact ⟨_, _, rfl, rfl, c, kD_now h s (by rw [Rp])⟩
  · obtain ⟨c, h⟩ := h.ite
    rw [Rp] at r1 r2; subst r1 r2
    exact ⟨_, _, rfl, rfl, c, kD_now h s (by rw [Rp])⟩
  · exact h.elim
end
end Z
namespace Z
open PySem L2
section
variable {W : Wd} {E : XK} {X : Cx} {m : List Addr} {H : Hp} {st : Sto} {Q : VK}
/-! ### comparisons by values -/
mutual
theorem toPW_ok {f : Nat → Option PyData} (hf : ∀ k p v, f k = some p → Rp W.K H m (.loc k) v → Dp W.K H v p) : ∀ {d : D} {p : PyData} {v : V}, toPW f d = some p → Rp W.K H m d v → Dp W.K H v p
  | .non, p, v, e, r => by rw [toPW] at e; rw [Rp] at r; cases e; subst r; exact .non
  | .bl b, p, v, e, r => by rw [toPW] at e; rw [Rp] at r; cases e; subst r; exact .bl b
  | .int b, p, v, e, r => by rw [toPW] at e; rw [Rp] at r; cases e; subst r; exact .int b
  | .str b, p, v, e, r => by rw [toPW] at e; rw [Rp] at r; cases e; subst r; exact .str _
  | .tup xs, p, v, e, r => by
    rw [toPW] at e
    obtain ⟨a, vs, rfl, h1, h2⟩ := r.tup_ref
    split at e
    · rename_i ps q
      cases e
      exact .tup h1 (toPWs_ok hf q h2)
    · cases e
  | .loc k, p, v, e, r => by rw [toPW] at e; exact hf k p v e r
  | .fl _, p, v, e, r => by rw [toPW] at e; cases e
theorem toPWs_ok {f : Nat → Option PyData} (hf : ∀ k p v, f k = some p → Rp W.K H m (.loc k) v → Dp W.K H v p) : ∀ {ds : List D} {ps : List PyData} {vs : List V}, toPWs f ds = some ps → Rps W.K H m ds vs → DpAll W.K H vs ps
  | [], ps, vs, e, r => by rw [toPWs] at e; rw [Rps] at r; cases e; subst r; exact .nil
  | d :: ds, ps, vs, e, r => by
    rw [toPWs] at e
    rw [Rps] at r
    obtain ⟨v, vs', rfl, h1, h2⟩ := r
    split at e
    · rename_i p ps q1 q2
      cases e
      exact .cons (toPW_ok hf q1 h1) (toPWs_ok hf q2 h2)
    · cases e
end
theorem toP_ok (s : Sim W H m st) : ∀ (n : Nat) {d : D} {p : PyData} {v : V}, toP st n d = some p → Rp W.K H m d v → Dp W.K H v p
  | 0, d, p, v, e, r => toPW_ok (f := fun _ => none) (fun k p v z => by cases z) e r
  | n + 1, d, p, v, e, r => by
    rw [toP] at e
    refine toPW_ok (fun k p v z rz => ?_) e r
    rw [Rp] at rz
    obtain ⟨a, ha, rfl⟩ := rz
    split at z
    · rename_i xs hx
      split at z
      · rename_i ps q
        cases z
        obtain ⟨b, hb, vs, h1, h2⟩ := s.at hx
        rw [ha] at hb; cases hb
        exact .lst (SqL.of h1) (toPWs_ok (fun k p v z' rz' => toP_ok s n z' rz') q h2)
      · cases z
    · cases z
def rEqM (K : PySem.W.Frag) (neg : Bool) : R2 := fun x y H Q => ∃ d e, Dp K H x d ∧ Dp K H y e ∧ d.canLay0 = true ∧ e.canLay0 = true ∧ min d.depth e.depth ≤ 64 ∧ Q (.bl (if neg then !PyData.eqv d e else PyData.eqv d e)) H
theorem op_eqM (hu : X.A.units + 64 < cLine) : OpR X (compareOp .Eq) (rEqM X.K false) := by
  intro pins s σ H x y v u Q I rx ry h
  obtain ⟨d, e, hd, he, sd, se, hm, q⟩ := h
  obtain ⟨as, r1⟩ := Dp.reads I d x v hd rx
  obtain ⟨bs, r2⟩ := Dp.reads I e y u he ry
  exact SeqAt.compareEq_reads r1 r2 sd se (by omega) ⟨.bl _, H, I, rfl, q⟩
theorem op_neM (hu : X.A.units + 64 < cLine) : OpR X (compareOp .NotEq) (rEqM X.K true) := by
  intro pins s σ H x y v u Q I rx ry h
  obtain ⟨d, e, hd, he, sd, se, hm, q⟩ := h
  obtain ⟨as, r1⟩ := Dp.reads I d x v hd rx
  obtain ⟨bs, r2⟩ := Dp.reads I e y u he ry
  exact SeqAt.compareNe_reads r1 r2 sd se (by omega) ⟨.bl _, H, I, rfl, q⟩
/-- with nothing on the right -/
def rEqE (K : PySem.W.Frag) (neg : Bool) : R2 := fun x y H Q => ∃ a b xs, x = .ref a ∧ y = .ref b ∧ ((SqT K H a xs ∧ SqT K H b []) ∨ (SqL K H a xs ∧ SqL K H b [])) ∧ Q (.bl (if neg then !xs.isEmpty else xs.isEmpty)) H
theorem op_eqE (hu : X.A.units < cLine) : OpR X (compareOp .Eq) (rEqE X.K false) := by
  intro pins s σ H x y v u Q I rx ry h
  obtain ⟨a, b, xs, rfl, rfl, h, q⟩ := h
  cases rx; cases ry
  rcases h with ⟨h1, h2⟩ | ⟨h1, h2⟩
  · obtain ⟨its, r1, p1, _⟩ := I.tuple h1
    obtain ⟨its2, r2, p2, _⟩ := I.tuple h2
    cases r2
    have z := SeqAt.RcAt.tuples (e := fun _ => true) (show s.heap.IsTuple a its.toArray from p1) (show s.heap.IsTuple b ([] : List Value).toArray from p2) hu (fun j h1 h2 => absurd h2 (by simp))
    refine z _ _ _ _ ⟨.bl _, H, I, ?_, q⟩
    cases r1 <;> rfl
  · obtain ⟨its, r1, p1, _⟩ := I.list h1
    obtain ⟨its2, r2, p2, _⟩ := I.list h2
    cases r2
    cases r1 with
    | nil =>
      have z := SeqAt.RcAt.lists (e := fun _ => true) p1.isList p2.isList rfl hu (fun j h1 h2 => absurd h2 (by simp))
      exact z _ _ _ _ ⟨.bl _, H, I, rfl, q⟩
    | cons r rs =>
      have z := SeqAt.RcAt.lists_lengths p1.isList p2.isList (by simp) hu
      exact z _ _ _ _ ⟨.bl _, H, I, rfl, q⟩
theorem op_neE (hu : X.A.units < cLine) : OpR X (compareOp .NotEq) (rEqE X.K true) := by
  intro pins s σ H x y v u Q I rx ry h
  obtain ⟨a, b, xs, rfl, rfl, h, q⟩ := h
  cases rx; cases ry
  rcases h with ⟨h1, h2⟩ | ⟨h1, h2⟩
  · obtain ⟨its, r1, p1, _⟩ := I.tuple h1
    obtain ⟨its2, r2, p2, _⟩ := I.tuple h2
    cases r2
    have z := SeqAt.RcNeAt.tuples (e := fun _ => true) (show s.heap.IsTuple a its.toArray from p1) (show s.heap.IsTuple b ([] : List Value).toArray from p2) hu (fun j h1 h2 => absurd h2 (by simp))
    refine z _ _ _ _ ⟨.bl _, H, I, ?_, q⟩
    cases r1 <;> rfl
  · obtain ⟨its, r1, p1, _⟩ := I.list h1
    obtain ⟨its2, r2, p2, _⟩ := I.list h2
    cases r2
    cases r1 with
    | nil =>
      have z := SeqAt.RcNeAt.lists (e := fun _ => true) p1.isList p2.isList rfl hu (fun j h1 h2 => absurd h2 (by simp))
      exact z _ _ _ _ ⟨.bl _, H, I, rfl, q⟩
    | cons r rs =>
      have z := SeqAt.RcNeAt.lists_lengths p1.isList p2.isList (by simp) hu
      exact z _ _ _ _ ⟨.bl _, H, I, rfl, q⟩
def rEqA (K : PySem.W.Frag) (neg : Bool) : R2 := fun x y H Q => rEqM K neg x y H Q ∨ ((scal x y = true ∧ Q (.bl (if neg then !decide (x = y) else decide (x = y))) H) ∨ rEqE K neg x y H Q)
theorem op_eqA (hu : X.A.units + 64 < cLine) : OpR X (compareOp .Eq) (rEqA X.K false) := (op_eqM hu).or ((op_eq (X := X)).or (op_eqE (by omega)))
theorem op_neA (hu : X.A.units + 64 < cLine) : OpR X (compareOp .NotEq) (rEqA X.K true) := (op_neM hu).or ((op_ne (X := X)).or (op_neE (by omega)))
theorem isEmpty_rel {xs : List D} {vs : List V} (h : Rps W.K H m xs vs) : vs.isEmpty = xs.isEmpty := by
  have := h.len
  cases xs <;> cases vs <;> simp_all
theorem sOf_inj {x y : Tx} (h : sOf x = sOf y) : x = y := by
  unfold sOf at h
  injection h with h
  exact congrArg Array.toList h
theorem eqD_ok {neg : Bool} {a b : D} {v u : V} (s : Sim W H m st) (r1 : Rp W.K H m a v) (r2 : Rp W.K H m b u)
    (h : Pg W E m H ((ofO st (eqD st a b)).bind fun r st => .ok (.bl (if neg then !r else r)) st) (kD W Q)) : rEqA W.K neg v u H Q := by
  obtain ⟨r, e, h⟩ := h.ofO
  have gen : ∀ {a b : D} {v u : V}, Rp W.K H m a v → Rp W.K H m b u → eqG st a b = some r → rEqA W.K neg v u H Q := fun {a b v u} r1 r2 e => by
    unfold eqG at e
    split at e
    · rename_i p q hp hq
      split at e
      · rename_i c
        cases e
        exact .inl ⟨p, q, toP_ok s 2 hp r1, toP_ok s 2 hq r2, c.1, c.2.1, c.2.2, kD_now h s (by rw [Rp])⟩
      · cases e
    · cases e
  unfold eqD at e
  split at e
  · rw [Rp] at r1 r2; subst r1 r2; cases e
    refine .inr (.inl ⟨rfl, ?_⟩)
    have z : ∀ i j : Int, decide (V.int i = V.int j) = decide (i = j) := fun i j => by by_cases e : i = j <;> simp [e]
    rw [z]
    exact kD_now h s (by rw [Rp])
  · rw [Rp] at r1 r2; subst r1 r2; cases e
    refine .inr (.inl ⟨rfl, ?_⟩)
    have z : ∀ i j : Tx, decide (V.str (sOf i) = V.str (sOf j)) = decide (i = j) := fun i j => by
      by_cases e : i = j
      · subst e; simp
      · have : ¬ V.str (sOf i) = V.str (sOf j) := fun q => e (sOf_inj (by injection q))
        simp [e, this]
    rw [z]
    exact kD_now h s (by rw [Rp])
  · rw [Rp] at r1 r2; subst r1 r2; cases e
    refine .inr (.inl ⟨rfl, ?_⟩)
    have z : ∀ i j : Bool, decide (V.bl i = V.bl j) = decide (i = j) := fun i j => by by_cases e : i = j <;> simp [e]
    rw [z]
    exact kD_now h s (by rw [Rp])
  · cases e
    obtain ⟨a, vs, rfl, h1, h2⟩ := r1.tup_ref
    obtain ⟨b, us, rfl, g1, g2⟩ := r2.tup_ref
    rw [Rps] at g2; subst g2
    exact .inr (.inr ⟨a, b, vs, rfl, rfl, .inl ⟨h1, g1⟩, by rw [isEmpty_rel h2]; exact kD_now h s (by rw [Rp])⟩)
  · split at e
    · rename_i hx hy
      cases e
      obtain ⟨b1, hb1, vs, h1, h2⟩ := s.at hx
      obtain ⟨b2, hb2, us, g1, g2⟩ := s.at hy
      rw [Rps] at g2; subst g2
      rw [Rp] at r1 r2
      obtain ⟨a1, ha1, rfl⟩ := r1
      obtain ⟨a2, ha2, rfl⟩ := r2
      rw [hb1] at ha1; cases ha1
      rw [hb2] at ha2; cases ha2
      exact .inr (.inr ⟨_, _, vs, rfl, rfl, .inr ⟨SqL.of h1, SqL.of g1⟩, by rw [isEmpty_rel h2]; exact kD_now h s (by rw [Rp])⟩)
    · exact gen r1 r2 e
  · exact gen r1 r2 e
/-! ### among them -/
def rInM (K : PySem.W.Frag) (neg : Bool) : R2 := fun x y H Q => ∃ d ds, Dp K H x d ∧ (Dp K H y (.list ds) ∨ Dp K H y (.tuple ds)) ∧ SeqAt.shaped d = true ∧ SeqAt.shaped (.tuple ds) = true ∧ Q (.bl (if neg then !(ds.any fun z => PyData.eqv z d) else ds.any fun z => PyData.eqv z d)) H
theorem op_inM (hu : X.A.units + 65 < cLine) : OpR X (compareOp .In) (rInM X.K false) := by
  intro pins s σ H x y v u Q I rx ry h
  obtain ⟨d, ds, hd, he, sd, se, q⟩ := h
  obtain ⟨as, r1⟩ := Dp.reads I d x v hd rx
  have hr : X.A.units + 1 + min (PyData.depthAll ds) d.depth < cLine := by
    have h1 := SeqAt.depth_of_shaped sd
    have h2 : min (PyData.depthAll ds) d.depth ≤ d.depth := Nat.min_le_right _ _
    omega
  rcases he with he | he
  · obtain ⟨bs, r2⟩ := Dp.reads I _ y u he ry
    exact SeqAt.in_list_reads r2 r1 (SeqAt.canLay_of_shaped se) (SeqAt.canLay_of_shaped sd) hr ⟨.bl _, H, I, rfl, q⟩
  · obtain ⟨bs, r2⟩ := Dp.reads I _ y u he ry
    exact SeqAt.in_tuple_reads r2 r1 (SeqAt.canLay_of_shaped se) (SeqAt.canLay_of_shaped sd) hr ⟨.bl _, H, I, rfl, q⟩
theorem op_notInM (hu : X.A.units + 65 < cLine) : OpR X (compareOp .NotIn) (rInM X.K true) := by
  intro pins s σ H x y v u Q I rx ry h
  obtain ⟨d, ds, hd, he, sd, se, q⟩ := h
  obtain ⟨as, r1⟩ := Dp.reads I d x v hd rx
  have hr : X.A.units + 1 + min (PyData.depthAll ds) d.depth < cLine := by
    have h1 := SeqAt.depth_of_shaped sd
    have h2 : min (PyData.depthAll ds) d.depth ≤ d.depth := Nat.min_le_right _ _
    omega
  rcases he with he | he
  · obtain ⟨bs, r2⟩ := Dp.reads I _ y u he ry
    exact SeqAt.notIn_list_reads r2 r1 (SeqAt.canLay_of_shaped se) (SeqAt.canLay_of_shaped sd) hr ⟨.bl _, H, I, rfl, q⟩
  · obtain ⟨bs, r2⟩ := Dp.reads I _ y u he ry
    exact SeqAt.notIn_tuple_reads r2 r1 (SeqAt.canLay_of_shaped se) (SeqAt.canLay_of_shaped sd) hr ⟨.bl _, H, I, rfl, q⟩
def rDkIn (neg : Bool) : R2 := fun x y H Q => ∃ a o, y = .ref a ∧ DGet H a x o ∧ Q (.bl (if neg then !o.isSome else o.isSome)) H
theorem op_dkIn (hu : X.A.units + 1 < cLine) : OpR X (compareOp .In) (rDkIn false) := by
  intro pins s σ H x y v u Q I rx ry h
  obtain ⟨a, o, rfl, g, q⟩ := h
  obtain rfl : u = Value.ref a := ry
  exact d_in hu I g rx fun s3 I3 => ⟨.bl _, H, I3, rfl, q⟩
theorem op_dkNotIn (hu : X.A.units + 1 < cLine) : OpR X (compareOp .NotIn) (rDkIn true) := by
  intro pins s σ H x y v u Q I rx ry h
  obtain ⟨a, o, rfl, g, q⟩ := h
  obtain rfl : u = Value.ref a := ry
  exact d_notIn hu I g rx fun s3 I3 => ⟨.bl _, H, I3, rfl, q⟩
def rSgn (neg : Bool) : R2 := fun x y H Q => ∃ (c : Nat) (z : Str), x = .str ⟨#[c]⟩ ∧ y = .str z ∧ Q (.bl (if neg then !decide (c ∈ z.cps.toList) else decide (c ∈ z.cps.toList))) H
def rMem (W : Wd) (neg : Bool) : R2 := fun x y H Q => rSgn neg x y H Q ∨ (rInM W.K neg x y H Q ∨ (rNdIn W.P W.w W.K neg x y H Q ∨ rDkIn neg x y H Q))
theorem op_rMem (hP : X.prog = W.P) (hw : X.w = W.w) (hK : X.K = W.K) (hu : X.A.units + 100 < cLine) : OpR X (compareOp .In) (rMem W false) := by
  have q1 : OpR X (compareOp .In) (rSgn false) := op_in_sign
  have q := q1.or ((op_inM (X := X) (by omega)).or ((op_ndIn (X := X) (by omega)).or (op_dkIn (X := X) (by omega))))
  rw [hK, hP, hw] at q
  exact q
theorem op_rNMem (hP : X.prog = W.P) (hw : X.w = W.w) (hK : X.K = W.K) (hu : X.A.units + 100 < cLine) : OpR X (compareOp .NotIn) (rMem W true) := by
  have q1 : OpR X (compareOp .NotIn) (rSgn true) := op_notIn_sign
  have q := q1.or ((op_notInM (X := X) (by omega)).or ((op_ndNotIn (X := X) (by omega)).or (op_dkNotIn (X := X) (by omega))))
  rw [hK, hP, hw] at q
  exact q
/-! keys -/
mutual
theorem nkD_py : ∀ {d : D} {k : NestedKey}, nkD d = some k → toPW (fun _ => none) d = some (pyNk k)
  | .non, k, h => by rw [nkD] at h; cases h; rfl
  | .int i, k, h => by rw [nkD] at h; cases h; rfl
  | .str x, k, h => by rw [nkD] at h; cases h; rfl
  | .tup ds, k, h => by
    rw [nkD] at h
    split at h
    · rename_i ks e
      cases h
      rw [toPW, nkDs_py e, pyNk]
    · cases h
  | .bl b, k, h => by simp [nkD] at h
  | .loc b, k, h => by simp [nkD] at h
  | .fl b, k, h => by simp [nkD] at h
theorem nkDs_py : ∀ {ds : List D} {ks : List NestedKey}, nkDs ds = some ks → toPWs (fun _ => none) ds = some (pyNks ks)
  | [], ks, h => by rw [nkDs] at h; cases h; rw [toPWs, pyNks]
  | d :: ds, ks, h => by
    rw [nkDs] at h
    split at h
    · rename_i k ks' e1 e2
      cases h
      rw [toPWs, nkD_py e1, nkDs_py e2, pyNks]
    · cases h
end
mutual
theorem nkD_inj : ∀ {d e : D} {k : NestedKey}, nkD d = some k → nkD e = some k → d = e
  | .non, e, k, h, g => by rw [nkD] at h; cases h; cases e <;> simp [nkD] at g; rfl; split at g <;> cases g
  | .int i, e, k, h, g => by
    rw [nkD] at h; cases h
    cases e <;> simp [nkD] at g
    · rw [g]
    · split at g <;> cases g
  | .str x, e, k, h, g => by
    rw [nkD] at h; cases h
    cases e <;> simp [nkD] at g
    · rw [sOf_inj g]
    · split at g <;> cases g
  | .tup ds, e, k, h, g => by
    rw [nkD] at h
    split at h
    · rename_i ks e1
      cases h
      cases e <;> simp [nkD] at g
      split at g
      · rename_i ks' e2
        cases g
        rw [nkDs_inj e1 e2]
      · cases g
    · cases h
  | .bl b, e, k, h, g => by simp [nkD] at h
  | .loc b, e, k, h, g => by simp [nkD] at h
  | .fl b, e, k, h, g => by simp [nkD] at h
theorem nkDs_inj : ∀ {ds es : List D} {ks : List NestedKey}, nkDs ds = some ks → nkDs es = some ks → ds = es
  | [], es, ks, h, g => by
    rw [nkDs] at h; cases h
    cases es with
    | nil => rfl
    | cons e es => rw [nkDs] at g; split at g <;> cases g
  | d :: ds, es, ks, h, g => by
    rw [nkDs] at h
    split at h
    · rename_i k ks' e1 e2
      cases h
      cases es with
      | nil => rw [nkDs] at g; cases g
      | cons e es =>
        rw [nkDs] at g
        split at g
        · rename_i k' ks'' g1 g2
          cases g
          rw [nkD_inj e1 g1, nkDs_inj e2 g2]
        · cases g
    · cases h
end
theorem keyT_ok {d : D} {v : V} (h : keyT d = true) (r : Rp W.K H m d v) : ∃ b k, v = .ref b ∧ nkD d = some k ∧ k.depth ≤ 8 ∧ Dp W.K H (.ref b) (pyNk k) := by
  unfold keyT at h
  split at h
  · split at h
    · rename_i k e
      have hd := of_decide_eq_true h
      have r0 := r
      obtain ⟨a, vs, rfl, _, _⟩ := r0.tup_ref
      exact ⟨a, k, rfl, e, hd, toPW_ok (f := fun _ => none) (fun k p v z => by cases z) (nkD_py e) r⟩
    · cases h
  · cases h
theorem Dent.keys : ∀ {kvs : List (D × D)} {xs : NdX}, Dent W.K H m kvs xs → NdKs W.K H xs
  | [], xs, h => by
    have h : xs = [] := h
    subst h
    intro x hx; cases hx
  | (k, d) :: r, xs, h => by
    obtain ⟨nk, ka, u, v, xs', rfl, h2, h3, h4, h5, h6, h7⟩ := h
    intro x hx
    rcases List.mem_cons.mp hx with rfl | hx
    · exact ⟨toPW_ok (f := fun _ => none) (fun k p v z => by cases z) (nkD_py h2) h4, h3⟩
    · exact Dent.keys h7 x hx
theorem Dent.get {k : D} {nk : NestedKey} (hk : nkD k = some nk) : ∀ {kvs : List (D × D)} {xs : NdX}, Dent W.K H m kvs xs →
    (∀ d, dGet kvs k = some d → ∃ ka u v, atKey xs nk = some (ka, u) ∧ RelV v u ∧ Rp W.K H m d v) ∧ (dGet kvs k = none → atKey xs nk = none)
  | [], xs, h => by
    have h : xs = [] := h
    subst h
    exact ⟨fun d e => (by cases e), fun _ => rfl⟩
  | (k1, d1) :: r, xs, h => by
    obtain ⟨nk1, ka, u, v, xs', rfl, h2, h3, h4, h5, h6, h7⟩ := h
    by_cases e : k1 = k
    · subst e
      rw [hk] at h2; cases h2
      refine ⟨fun d e => ?_, fun e => ?_⟩
      · simp [dGet] at e
        subst e
        exact ⟨ka, u, v, by simp [atKey], h5, h6⟩
      · simp [dGet] at e
    · have e' : ¬ nk1 = nk := fun z => e (nkD_inj h2 (by rw [hk, z]))
      have ih := Dent.get hk h7
      have q1 : dGet ((k1, d1) :: r) k = dGet r k := by simp [dGet, e]
      have q2 : atKey ((nk1, ka, u) :: xs') nk = atKey xs' nk := by simp [atKey, e']
      rw [q1, q2]
      exact ih
theorem Dent.put {k d : D} {nk : NestedKey} {b : Addr} {v : V} {u : Value} (hk : nkD k = some nk) (hd : nk.depth ≤ 8) (rk : Rp W.K H m k (.ref b)) (rv : RelV v u) (rd : Rp W.K H m d v) {kvs : List (D × D)} {xs : NdX} (h : Dent W.K H m kvs xs) :
    Dent W.K H m (dPut kvs k d) (storedH xs nk b u) := by
  have hm : ∀ {kvs : List (D × D)} {xs : NdX}, Dent W.K H m kvs xs → Dent W.K H m (kvs.map fun p => if p.1 = k then (p.1, d) else p) (xs.map (putAt nk u)) := by
    intro kvs
    induction kvs with
    | nil => intro xs h; have h : xs = [] := h; subst h; rfl
    | cons p r ih =>
      obtain ⟨k1, d1⟩ := p
      intro xs h
      obtain ⟨nk1, ka, u1, v1, xs', rfl, h2, h3, h4, h5, h6, h7⟩ := h
      rw [List.map_cons, List.map_cons]
      by_cases e : k1 = k
      · subst e
        rw [hk] at h2; cases h2
        rw [if_pos rfl, show putAt nk u (nk, ka, u1) = (nk, ka, u) by simp [putAt]]
        exact ⟨nk, ka, u, v, _, rfl, hk, h3, h4, rv, rd, ih h7⟩
      · have e' : ¬ nk1 = nk := fun z => e (nkD_inj h2 (by rw [hk, z]))
        rw [if_neg e, show putAt nk u (nk1, ka, u1) = (nk1, ka, u1) by simp [putAt, e']]
        exact ⟨nk1, ka, u1, v1, _, rfl, h2, h3, h4, h5, h6, ih h7⟩
  have ha : ∀ {kvs : List (D × D)} {xs : NdX}, Dent W.K H m kvs xs → Dent W.K H m (kvs ++ [(k, d)]) (xs ++ [(nk, b, u)]) := by
    intro kvs
    induction kvs with
    | nil => intro xs h; have h : xs = [] := h; subst h; exact ⟨nk, b, u, v, [], rfl, hk, hd, rk, rv, rd, rfl⟩
    | cons p r ih =>
      obtain ⟨k1, d1⟩ := p
      intro xs h
      obtain ⟨nk1, ka, u1, v1, xs', rfl, h2, h3, h4, h5, h6, h7⟩ := h
      exact ⟨nk1, ka, u1, v1, _, rfl, h2, h3, h4, h5, h6, ih h7⟩
  obtain ⟨g1, g2⟩ := h.get hk
  unfold dPut storedH
  cases q : dGet kvs k with
  | some d0 =>
    obtain ⟨ka, u0, v0, z, _⟩ := g1 d0 q
    rw [z]
    exact hm h
  | none =>
    rw [g2 q]
    exact ha h
theorem Dent.len : ∀ {kvs : List (D × D)} {xs : NdX}, Dent W.K H m kvs xs → xs.length = kvs.length
  | [], xs, h => by have h : xs = [] := h; subst h; rfl
  | (k, d) :: r, xs, h => by
    obtain ⟨nk, ka, u, v, xs', rfl, h2, h3, h4, h5, h6, h7⟩ := h
    rw [List.length_cons, List.length_cons, Dent.len h7]
theorem kyD_inj {d e : D} {k : Key} (h : kyD d = some k) (g : kyD e = some k) : d = e := by
  cases d <;> simp [kyD] at h <;> cases e <;> simp [kyD] at g <;> subst h <;> simp at g
  · rw [g]
  · rw [sOf_inj g]
theorem kyD_v {d : D} {k : Key} {v : V} (h : kyD d = some k) (r : Rp W.K H m d v) : v = kV k := by
  cases d <;> simp [kyD] at h <;> subst h <;> rw [Rp] at r <;> exact r
theorem keyK_ok {d : D} (h : keyK d = true) : ∃ k, kyD d = some k := by
  cases d <;> simp [keyK] at h <;> exact ⟨_, rfl⟩
theorem Dkt.get {k : D} {ky : Key} (hk : kyD k = some ky) : ∀ {kvs : List (D × D)} {xs : List (Key × V)}, Dkt W.K H m kvs xs →
    (∀ d, dGet kvs k = some d → ∃ v, valV xs ky = some v ∧ Rp W.K H m d v) ∧ (dGet kvs k = none → valV xs ky = none)
  | [], xs, h => by
    have h : xs = [] := h
    subst h
    exact ⟨fun d e => (by cases e), fun _ => rfl⟩
  | (k1, d1) :: r, xs, h => by
    obtain ⟨ky1, v, xs', rfl, h2, h6, h7⟩ := h
    by_cases e : k1 = k
    · subst e
      rw [hk] at h2; cases h2
      refine ⟨fun d e => ?_, fun e => ?_⟩
      · simp [dGet] at e
        subst e
        exact ⟨v, valV_pos rfl, h6⟩
      · simp [dGet] at e
    · have e' : ¬ ky1 = ky := fun z => e (kyD_inj h2 (by rw [hk, z]))
      have ih := Dkt.get hk h7
      have q1 : dGet ((k1, d1) :: r) k = dGet r k := by simp [dGet, e]
      rw [q1, valV_neg e']
      exact ih
theorem Dkt.put {k d : D} {ky : Key} {v : V} (hk : kyD k = some ky) (rd : Rp W.K H m d v) {kvs : List (D × D)} {xs : List (Key × V)} (h : Dkt W.K H m kvs xs) :
    Dkt W.K H m (dPut kvs k d) (putK xs ky v) := by
  have hm : ∀ {kvs : List (D × D)} {xs : List (Key × V)}, Dkt W.K H m kvs xs → Dkt W.K H m (kvs.map fun p => if p.1 = k then (p.1, d) else p) (xs.map fun kv => if kv.1 = ky then (kv.1, v) else kv) := by
    intro kvs
    induction kvs with
    | nil => intro xs h; have h : xs = [] := h; subst h; rfl
    | cons p r ih =>
      obtain ⟨k1, d1⟩ := p
      intro xs h
      obtain ⟨ky1, v1, xs', rfl, h2, h6, h7⟩ := h
      rw [List.map_cons, List.map_cons]
      by_cases e : k1 = k
      · subst e
        rw [hk] at h2; cases h2
        rw [if_pos rfl, if_pos rfl]
        exact ⟨ky, v, _, rfl, hk, rd, ih h7⟩
      · have e' : ¬ ky1 = ky := fun z => e (kyD_inj h2 (by rw [hk, z]))
        rw [if_neg e, if_neg e']
        exact ⟨ky1, v1, _, rfl, h2, h6, ih h7⟩
  have ha : ∀ {kvs : List (D × D)} {xs : List (Key × V)}, Dkt W.K H m kvs xs → Dkt W.K H m (kvs ++ [(k, d)]) (xs ++ [(ky, v)]) := by
    intro kvs
    induction kvs with
    | nil => intro xs h; have h : xs = [] := h; subst h; exact ⟨ky, v, [], rfl, hk, rd, rfl⟩
    | cons p r ih =>
      obtain ⟨k1, d1⟩ := p
      intro xs h
      obtain ⟨ky1, v1, xs', rfl, h2, h6, h7⟩ := h
      exact ⟨ky1, v1, _, rfl, h2, h6, ih h7⟩
  obtain ⟨g1, g2⟩ := h.get hk
  unfold dPut putK
  rw [valV_any]
  cases q : dGet kvs k with
  | some d0 =>
    obtain ⟨v0, z, _⟩ := g1 d0 q
    rw [z]
    exact hm h
  | none =>
    rw [g2 q]
    exact ha h
theorem Dkt.len : ∀ {kvs : List (D × D)} {xs : List (Key × V)}, Dkt W.K H m kvs xs → xs.length = kvs.length
  | [], xs, h => by have h : xs = [] := h; subst h; rfl
  | (k, d) :: r, xs, h => by
    obtain ⟨ky, v, xs', rfl, h2, h6, h7⟩ := h
    rw [List.length_cons, List.length_cons, Dkt.len h7]
theorem loc_at {d : Nat} {v : V} {c : Cell} (s : Sim W H m st) (r : Rp W.K H m (.loc d) v) (h : st[d]? = some c) : ∃ a, v = .ref a ∧ m[d]? = some a ∧ CellOk W H m a c := by
  obtain ⟨b, hb, ok⟩ := s.at h
  rw [Rp] at r
  obtain ⟨a, ha, rfl⟩ := r
  rw [ha] at hb; cases hb
  exact ⟨_, rfl, ha, ok⟩
theorem tup_py {n : Nat} {xs : List D} {vs : List V} {p : PyData} (s : Sim W H m st) (r : Rps W.K H m xs vs) (h : toP st n (.tup xs) = some p) : ∃ ps, p = .tuple ps ∧ DpAll W.K H vs ps := by
  have go : ∀ {f : Nat → Option PyData}, (∀ k p v, f k = some p → Rp W.K H m (.loc k) v → Dp W.K H v p) → toPW f (.tup xs) = some p → ∃ ps, p = .tuple ps ∧ DpAll W.K H vs ps := fun {f} hf h => by
    rw [toPW] at h
    split at h
    · rename_i ps q
      cases h
      exact ⟨ps, rfl, toPWs_ok hf q r⟩
    · cases h
  cases n with
  | zero => exact go (f := fun _ => none) (fun k p v z => by cases z) h
  | succ n =>
    rw [toP] at h
    refine go (fun k p v z rz => ?_) h
    refine toP_ok s (n + 1) (d := .loc k) (p := p) (v := v) ?_ rz
    rw [toP, toPW]; exact z
theorem memS_ok {d : D} {xs : List D} {v : V} {u : Addr} {vs : List V} {r neg : Bool} (s : Sim W H m st) (r1 : Rp W.K H m d v) (hq : SqL W.K H u vs ∨ SqT W.K H u vs) (rx : Rps W.K H m xs vs) (h : memS st d xs = some r) (q : Q (.bl (if neg then !r else r)) H) : rInM W.K neg v (.ref u) H Q := by
  unfold memS at h
  split at h
  · rename_i p ps e1 e2
    split at h
    · rename_i c
      cases h
      obtain ⟨ps', e, hall⟩ := tup_py s rx e2
      cases e
      refine ⟨p, ps, toP_ok s 2 e1 r1, ?_, c.1, c.2, q⟩
      rcases hq with hq | hq
      · exact .inl (.lst hq hall)
      · exact .inr (.tup hq hall)
    · cases h
  · cases h
theorem memD_ok {d e : D} {v u : V} {r neg : Bool} (s : Sim W H m st) (r1 : Rp W.K H m d v) (r2 : Rp W.K H m e u) (h : memD st d e = some r) (q : Q (.bl (if neg then !r else r)) H) : rMem W neg v u H Q := by
  unfold memD at h
  split at h
  · split at h
    · cases h
      rw [Rp] at r1 r2; subst r1 r2
      exact .inl ⟨_, _, rfl, rfl, q⟩
    · cases h
  · obtain ⟨a, vs, rfl, h1, h2⟩ := r2.tup_ref
    exact .inr (.inl (memS_ok s r1 (.inr h1) h2 h q))
  · split at h
    · rename_i hx
      obtain ⟨a, rfl, ha, vs, h1, h2⟩ := loc_at s r2 hx
      exact .inr (.inl (memS_ok s r1 (.inl (SqL.of h1)) h2 h q))
    · rename_i kvs hx
      obtain ⟨a, rfl, ha, xs, h1, h2⟩ := loc_at s r2 hx
      split at h
      · rename_i hk
        cases h
        obtain ⟨b, k, rfl, g1, g2, g3⟩ := keyT_ok hk r1
        refine .inr (.inr (.inl ⟨a, b, xs, k, rfl, rfl, h1, h2.keys, g3, g2, ?_⟩))
        obtain ⟨z1, z2⟩ := h2.get g1
        cases w : dGet kvs d with
        | some d0 =>
          obtain ⟨ka, u0, v0, z, _⟩ := z1 d0 w
          rw [w] at q; rw [z]; exact q
        | none => rw [w] at q; rw [z2 w]; exact q
      · cases h
    · rename_i kvs hx
      obtain ⟨a, rfl, ha, xs, h1, h2⟩ := loc_at s r2 hx
      split at h
      · rename_i hk
        cases h
        obtain ⟨ky, g1⟩ := keyK_ok hk
        have := kyD_v g1 r1; subst this
        refine .inr (.inr (.inr ⟨a, valV xs ky, rfl, DGet.k h1, ?_⟩))
        obtain ⟨z1, z2⟩ := h2.get g1
        cases w : dGet kvs d with
        | some d0 =>
          obtain ⟨v0, z, _⟩ := z1 d0 w
          rw [w] at q; rw [z]; exact q
        | none => rw [w] at q; rw [z2 w]; exact q
      · cases h
    · cases h
  · cases h
def rCmp (W : Wd) (o : COp) : R2 := fun x y H Q => match o with
  | .eq => rEqA W.K false x y H Q
  | .ne => rEqA W.K true x y H Q
  | .lt => ∃ i j, x = .int i ∧ y = .int j ∧ Q (.bl (decide (i < j))) H
  | .le => ∃ i j, x = .int i ∧ y = .int j ∧ Q (.bl (decide (i ≤ j))) H
  | .gt => ∃ i j, x = .int i ∧ y = .int j ∧ Q (.bl (decide (j < i))) H
  | .ge => ∃ i j, x = .int i ∧ y = .int j ∧ Q (.bl (decide (j ≤ i))) H
  | .isN => y = .non ∧ Q (.bl (decide (x = .non))) H
  | .notN => y = .non ∧ Q (.bl (!decide (x = .non))) H
  | .mem => rMem W false x y H Q
  | .nmem => rMem W true x y H Q
theorem op_rCmp {o : COp} {op : CmpOp} (h : copOk o op = true) (hP : X.prog = W.P) (hw : X.w = W.w) (hK : X.K = W.K) (hu : X.A.units + 100 < cLine) : OpR X (compareOp op) (rCmp W o) := by
  cases o <;> cases op <;> simp [copOk] at h
  · have q := op_eqA (X := X) (by omega); rw [hK] at q; exact q
  · have q := op_neA (X := X) (by omega); rw [hK] at q; exact q
  · exact op_lt
  · exact op_le
  · exact op_gt
  · exact op_ge
  · exact op_isN
  · exact op_notN
  · exact op_rMem hP hw hK hu
  · exact op_rNMem hP hw hK hu
theorem Rp.non_iff {d : D} {v : V} (r : Rp W.K H m d v) : decide (v = V.non) = decide (d = D.non) := by
  cases d <;> rw [Rp] at r
  · subst r; rfl
  · subst r; rfl
  · subst r; rfl
  · subst r; rfl
  · obtain ⟨a, vs, rfl, _⟩ := r; rfl
  · obtain ⟨a, _, rfl⟩ := r; rfl
  · obtain ⟨a, vs, rfl, _⟩ := r; rfl
theorem cmp_ok {o : COp} {d e : D} {v u : V} (s : Sim W H m st) (r1 : Rp W.K H m d v) (r2 : Rp W.K H m e u) (h : Pg W E m H (cmpD o d e st) (kD W Q)) : rCmp W o v u H Q := by
  cases o
  · exact eqD_ok (neg := false) s r1 r2 h
  · exact eqD_ok (neg := true) s r1 r2 h
  · unfold cmpD at h
    simp only at h
    split at h
    · rw [Rp] at r1 r2; subst r1 r2
      exact ⟨_, _, rfl, rfl, kD_now h s (by rw [Rp])⟩
    · exact h.elim
  · unfold cmpD at h
    simp only at h
    split at h
    · rw [Rp] at r1 r2; subst r1 r2
      exact ⟨_, _, rfl, rfl, kD_now h s (by rw [Rp])⟩
    · exact h.elim
  · unfold cmpD at h
    simp only at h
    split at h
    · rw [Rp] at r1 r2; subst r1 r2
      exact ⟨_, _, rfl, rfl, kD_now h s (by rw [Rp])⟩
    · exact h.elim
  · unfold cmpD at h
    simp only at h
    split at h
    · rw [Rp] at r1 r2; subst r1 r2
      exact ⟨_, _, rfl, rfl, kD_now h s (by rw [Rp])⟩
    · exact h.elim
  · unfold cmpD at h
    simp only at h
    split at h
    · rw [Rp] at r2; subst r2
      exact ⟨rfl, by rw [r1.non_iff]; exact kD_now h s (by rw [Rp])⟩
    · exact h.elim
  · unfold cmpD at h
    simp only at h
    split at h
    · rw [Rp] at r2; subst r2
      exact ⟨rfl, by rw [r1.non_iff]; exact kD_now h s (by rw [Rp])⟩
    · exact h.elim
  · obtain ⟨r, e, h⟩ := h.ofO
    exact memD_ok (neg := false) s r1 r2 e (kD_now h s (by rw [Rp]; rfl))
  · obtain ⟨r, e, h⟩ := h.ofO
    exact memD_ok (neg := true) s r1 r2 e (kD_now h s (by rw [Rp]; rfl))

/-! ### items, slices, fields -/
/-- what a list or a tuple holds -/
theorem seqD_ok {d : D} {v : V} {xs : List D} (s : Sim W H m st) (r : Rp W.K H m d v) (h : seqD st d = some xs) : ∃ a vs, v = .ref a ∧ (SqL W.K H a vs ∨ SqT W.K H a vs) ∧ Rps W.K H m xs vs := by
  unfold seqD at h
  split at h
  · cases h
    obtain ⟨a, vs, rfl, h1, h2⟩ := r.tup_ref
    exact ⟨a, vs, rfl, .inr h1, h2⟩
  · split at h
    · rename_i hx
      cases h
      obtain ⟨b, hb, vs, h1, h2⟩ := s.at hx
      rw [Rp] at r
      obtain ⟨a, ha, rfl⟩ := r
      rw [ha] at hb; cases hb
      exact ⟨_, vs, rfl, .inl (SqL.of h1), h2⟩
    · cases h
  · cases h
    rw [Rp] at r
    obtain ⟨a, vs, rfl, h1, h2⟩ := r
    exact ⟨a, vs, rfl, .inl h1.l, h2⟩
  · cases h
theorem lstD_ok {d : D} {v : V} {xs : List D} (s : Sim W H m st) (r : Rp W.K H m d v) (h : lstD st d = some xs) : ∃ a vs, v = .ref a ∧ SqL W.K H a vs ∧ Rps W.K H m xs vs := by
  unfold lstD at h
  split at h
  · split at h
    · rename_i hx
      cases h
      obtain ⟨b, hb, vs, h1, h2⟩ := s.at hx
      rw [Rp] at r
      obtain ⟨a, ha, rfl⟩ := r
      rw [ha] at hb; cases hb
      exact ⟨_, vs, rfl, SqL.of h1, h2⟩
    · cases h
  · cases h
    rw [Rp] at r
    obtain ⟨a, vs, rfl, h1, h2⟩ := r
    exact ⟨a, vs, rfl, h1.l, h2⟩
  · cases h
theorem atI_rel {ds : List D} {vs : List V} {i : Int} {d : D} (r : Rps W.K H m ds vs) (h : atI ds i = some d) : ∃ v, atI vs i = some v ∧ Rp W.K H m d v := by
  unfold atI at h ⊢
  rw [r.len]
  obtain ⟨j, h1, h2⟩ := Option.bind_eq_some_iff.mp h
  obtain ⟨v, h3, h4⟩ := r.get h2
  exact ⟨v, by rw [h1]; exact h3, h4⟩
theorem ixS_ok {d e : D} {v u : V} (s : Sim W H m st) (r1 : Rp W.K H m d v) (r2 : Rp W.K H m e u) (h : Pg W E m H (ixS d e st) (kD W Q)) : rIx W.K v u H Q := by
  unfold ixS at h
  split at h
  · rename_i i
    rw [Rp] at r2; subst r2
    split at h
    · rename_i x
      obtain ⟨c, h⟩ := h.ite
      obtain ⟨a, e, h⟩ := h.ofO
      rw [Rp] at r1; subst r1
      refine .inr (.inr ⟨sOf x, i, a, rfl, rfl, by rw [sOf_len]; exact lim_le c, by show atI x.toArray.toList i = _; rw [List.toList_toArray]; exact e, ?_⟩)
      exact kD_now h s (by rw [Rp]; rfl)
    · obtain ⟨xs, e, h⟩ := h.ofO
      obtain ⟨a, vs, rfl, h1, h2⟩ := seqD_ok s r1 e
      have h' : ∃ y, atI xs i = some y ∧ Pg W E m H (.ok y st) (kD W Q) := by
        cases q : atI xs i with
        | some y => rw [q] at h; exact ⟨y, rfl, h⟩
        | none => rw [q] at h; exact h.elim
      obtain ⟨y, e2, h⟩ := h'
      obtain ⟨z, e3, rz⟩ := atI_rel h2 e2
      rcases h1 with h1 | h1
      · exact .inl ⟨a, vs, i, z, rfl, rfl, h1, e3, kD_now h s rz⟩
      · exact .inr (.inl ⟨a, vs, i, z, rfl, rfl, h1, e3, kD_now h s rz⟩)
  · exact h.elim
def rDkIx : R2 := fun x y H Q => ∃ a v, x = .ref a ∧ DGet H a y (some v) ∧ Q v H
open PyProof.Rows PySem.Calls in
theorem ixTy {prog : Program} {w : World} {A : Around} {Er : Value → Shared → Prop} {s : Shared} {value slice : Expr} {v u : Value} {Qr : Value → Shared → Prop} (hT : s.TypeIs v "dict")
    (hs : subscripted slice false v u = operate [v, u] (getItem v u)) (h : wpAny (model prog w) A (getItem v u) Qr Er s) : wpAny (model prog w) A (subscriptTail value slice v u) Qr Er s := by
  unfold subscriptTail
  refine wpAny_bind ?_
  rw [getitemInPython_of_ne hT.not_modules]
  refine wpAny_bind (wpAny_specialOf hT PySem.F.slot_dict_getitem.lookup ?_)
  have fin : wpAny (model prog w) A (subscripted slice false v u) (fun r s₃ => wpAny (model prog w) A (letTemporaryGo value v r >>= fun _ => pure r) Qr Er s₃) Er s := by
    rw [hs]
    exact wpAny_operating (wpAny_mono h (fun r s₃ h₃ => wpAny_bind (wpAny_letTemporaryGo (wpAny_pure h₃))) fun _ _ x => x)
  first
    | exact wpAny_pure (wpAny_bind fin)
    | exact wpAny_bind (wpAny_pure (wpAny_bind fin))
    | exact wpAny_bind fin
open PyProof.Rows PySem.Calls in
theorem ix_nd (hu : X.A.units + 9 < cLine) : IxR X (rNdIx X.prog X.w X.K) := by
  intro value slice pins s σ H x y v u Q I rx ry h hs
  obtain ⟨a, b, xs, k, ka, w', v', rfl, rfl, e, hk, r⟩ := id h
  obtain rfl : v = Value.ref a := rx
  obtain ⟨_, _, dd⟩ := nd_at I e hk
  exact ixTy dd.typeIs hs (nd_getItem hu I (x := .ref a) (rfl : RelV (.ref a) (Value.ref a)) ry h)
open PyProof.Rows PySem.Calls in
theorem ix_dk (hu : X.A.units + 1 < cLine) : IxR X rDkIx := by
  intro value slice pins s σ H x y v u Q I rx ry h hs
  obtain ⟨a, v', rfl, g, q⟩ := h
  obtain rfl : v = Value.ref a := rx
  exact ixTy (dict_typeIs I g) hs (d_getItem hu I g ry fun w' s' I' rw' => (show EP X pins σ Q w' s' from ⟨v', H, I', rw', q⟩))
def rIxA (W : Wd) : R2 := fun x y H Q => rIx W.K x y H Q ∨ (rNdIx W.P W.w W.K x y H Q ∨ rDkIx x y H Q)
theorem ix_A (hP : X.prog = W.P) (hw : X.w = W.w) (hK : X.K = W.K) (hu : X.A.units + 100 < cLine) : IxR X (rIxA W) := by
  have q := (ix_seq (X := X)).or ((ix_nd (X := X) (by omega)).or (ix_dk (X := X) (by omega)))
  rw [hK, hP, hw] at q
  exact q
theorem ix_ok {d e : D} {v u : V} (s : Sim W H m st) (r1 : Rp W.K H m d v) (r2 : Rp W.K H m e u) (h : Pg W E m H (ixD d e st) (kD W Q)) : rIxA W v u H Q := by
  have ofO_g : ∀ {o : Option D}, Pg W E m H (ofO st o) (kD W Q) → ∃ y, o = some y ∧ Pg W E m H (.ok y st) (kD W Q) := fun {o} h => by
    cases o with
    | some y => exact ⟨y, rfl, h⟩
    | none => exact h.elim
  unfold ixD at h
  split at h
  · split at h
    · rename_i hx
      obtain ⟨hk, h⟩ := h.ite
      obtain ⟨y, ey, h⟩ := ofO_g h
      obtain ⟨a, rfl, ha, xs, h1, h2⟩ := loc_at s r1 hx
      obtain ⟨b, k, rfl, g1, g2, g3⟩ := keyT_ok hk r2
      obtain ⟨ka, u0, v0, z, z1, z2⟩ := (h2.get g1).1 y ey
      exact .inr (.inl ⟨a, b, xs, k, ka, u0, v0, rfl, rfl, h1, h2.keys, g3, g2, z, z1, kD_now h s z2⟩)
    · rename_i hx
      obtain ⟨hk, h⟩ := h.ite
      obtain ⟨y, ey, h⟩ := ofO_g h
      obtain ⟨a, rfl, ha, xs, h1, h2⟩ := loc_at s r1 hx
      obtain ⟨ky, g1⟩ := keyK_ok hk
      have := kyD_v g1 r2; subst this
      obtain ⟨v0, z, z2⟩ := (h2.get g1).1 y ey
      exact .inr (.inr ⟨a, v0, rfl, by have := DGet.k (k := ky) h1; rw [z] at this; exact this, kD_now h s z2⟩)
    · exact .inl (ixS_ok s r1 r2 h)
  · exact .inl (ixS_ok s r1 r2 h)
theorem cut_rel {ds : List D} {vs : List V} {lo hi : Option Int} (r : Rps W.K H m ds vs) : Rps W.K H m (cutD ds lo hi) (cutV vs lo hi) := by
  unfold cutD cutV
  rw [r.len]
  exact (r.drop _).take _
def rSl (K : PySem.W.Frag) : V → Option Int → Option Int → Hp → VK → Prop := fun x lo hi H Q => rSlS x lo hi H Q ∨ (rSlA K x lo hi H Q ∨ rSlL K x lo hi H Q)
theorem op_rSl (hK : X.K = W.K) : SlR X (rSl W.K) := by
  have q := (sl_str (X := X)).or ((sl_tupA (X := X)).or (sl_list (X := X)))
  rw [hK] at q
  exact q
theorem sl_ok {d : D} {v : V} {lo hi : Option Int} (s : Sim W H m st) (r1 : Rp W.K H m d v) (h : Pg W E m H (slD d lo hi st) (kD W Q)) : rSl W.K v lo hi H Q := by
  unfold slD at h
  split at h
  · rename_i x
    obtain ⟨c, h⟩ := h.ite
    rw [Rp] at r1; subst r1
    refine .inl ⟨sOf x, rfl, by rw [sOf_len]; exact lim_le c, kD_now h s ?_⟩
    rw [Rp]
    unfold cutS cutD
    rw [sOf_len]
    show V.str (Str.mk (((x.toArray.toList.drop _).take _).toArray)) = _
    rw [List.toList_toArray]
    rfl
  · rename_i xs
    obtain ⟨a, vs, rfl, h1, h2⟩ := r1.tup_ref
    refine .inr (.inl ⟨a, vs, rfl, h1, fun hw => ?_, fun _ p hp => new_tup s hp (cut_rel h2) h⟩)
    have e : cutD xs lo hi = xs := by
      unfold cutD
      rw [h2.len] at hw
      rw [hw.1, hw.2]
      simp
    rw [e] at h
    exact kD_now h s (by rw [Rp]; exact ⟨a, vs, rfl, h1, h2⟩)
  · obtain ⟨xs, e, h⟩ := h.ofO
    obtain ⟨a, vs, rfl, h1, h2⟩ := lstD_ok s r1 e
    exact .inr (.inr ⟨a, vs, rfl, h1, fun p hp => new_lst s hp (cut_rel h2) h⟩)
theorem rev_ok {d : D} {v : V} (s : Sim W H m st) (r1 : Rp W.K H m d v) (h : Pg W E m H (revD d st) (kD W Q)) : (∃ a xs, v = .ref a ∧ SqL W.K H a xs ∧ ∀ p, H p = none → Q (.ref p) (upd H p (.lst xs.reverse))) ∨
    (∃ a xs, v = .ref a ∧ SqT W.K H a xs ∧ ∀ p, H p = none → Q (.ref p) (upd H p (.tup xs.reverse))) ∨ (∃ z : Str, v = .str z ∧ z.length ≤ sizeLine ∧ Q (.str ⟨z.cps.toList.reverse.toArray⟩) H) := by
  unfold revD at h
  split at h
  · obtain ⟨a, vs, rfl, h1, h2⟩ := r1.tup_ref
    exact .inr (.inl ⟨a, vs, rfl, h1, fun p hp => new_tup s hp h2.rev h⟩)
  · obtain ⟨c, h⟩ := h.ite
    rw [Rp] at r1; subst r1
    refine .inr (.inr ⟨_, rfl, by rw [sOf_len]; exact lim_le c, kD_now h s ?_⟩)
    rw [Rp]
    show V.str (sOf _) = _
    unfold sOf
    simp
  · obtain ⟨xs, e, h⟩ := h.ofO
    obtain ⟨a, vs, rfl, h1, h2⟩ := lstD_ok s r1 e
    exact .inl ⟨a, vs, rfl, h1, fun p hp => new_lst s hp h2.rev h⟩
theorem lookupP {α : Type} (f g : Str) (y : α) (fs : List (Str × α)) : ((f, y) :: fs).lookup g = if g = f then some y else fs.lookup g := by
  by_cases h : g = f
  · subst h
    simp [List.lookup]
  · have e : (g == f) = false := by simpa using h
    rw [if_neg h]
    simp [List.lookup, e]
theorem Fsr.lookup {fs : List (Str × D)} {gs : List (Str × V)} (r : Fsr W.K H m fs gs) {f : Str} {d : D} (h : fs.lookup f = some d) : ∃ v, gs.lookup f = some v ∧ Rp W.K H m d v := by
  obtain ⟨r1, r2⟩ := r
  induction fs generalizing gs with
  | nil => cases h
  | cons p fs ih =>
    obtain ⟨g, d'⟩ := p
    cases gs with
    | nil => cases r1
    | cons q gs =>
      obtain ⟨g', v'⟩ := q
      simp only [List.map_cons, List.cons.injEq] at r1 r2
      rw [Rps] at r2
      obtain ⟨v, vs, e, h1, h2⟩ := r2
      cases e
      obtain ⟨rfl, r1⟩ := r1
      rw [lookupP] at h ⊢
      by_cases hf : f = g'
      · rw [if_pos hf] at h ⊢
        cases h
        exact ⟨v', rfl, h1⟩
      · rw [if_neg hf] at h ⊢
        exact ih h r1 h2
theorem Fsr.lookup_none {fs : List (Str × D)} {gs : List (Str × V)} (r : Fsr W.K H m fs gs) {f : Str} (h : fs.lookup f = none) : gs.lookup f = none := by
  have r1 := r.1
  clear r
  induction fs generalizing gs with
  | nil =>
    cases gs with
    | nil => rfl
    | cons q gs => cases r1
  | cons p fs ih =>
    obtain ⟨g, d'⟩ := p
    cases gs with
    | nil => cases r1
    | cons q gs =>
      obtain ⟨g', v'⟩ := q
      simp only [List.map_cons, List.cons.injEq] at r1
      obtain ⟨rfl, r1⟩ := r1
      rw [lookupP] at h ⊢
      by_cases hf : f = g'
      · rw [if_pos hf] at h; cases h
      · rw [if_neg hf] at h ⊢
        exact ih h r1
theorem Fsr.put {fs : List (Str × D)} {gs : List (Str × V)} {f : Str} {d : D} {v : V} (r : Fsr W.K H m fs gs) (h : Rp W.K H m d v) : Fsr W.K H m (putF' f d fs) (putF f v gs) := by
  obtain ⟨r1, r2⟩ := r
  induction fs generalizing gs with
  | nil =>
    cases gs with
    | nil => exact ⟨rfl, Rps.one h⟩
    | cons q gs => cases r1
  | cons p fs ih =>
    obtain ⟨g, d'⟩ := p
    cases gs with
    | nil => cases r1
    | cons q gs =>
      obtain ⟨g', v'⟩ := q
      simp only [List.map_cons, List.cons.injEq] at r1 r2
      rw [Rps] at r2
      obtain ⟨w, vs, e, h1, h2⟩ := r2
      cases e
      obtain ⟨rfl, r1⟩ := r1
      unfold putF' putF
      by_cases hf : g' = f
      · rw [if_pos hf, if_pos hf]
        refine ⟨by simp [r1], ?_⟩
        simp only [List.map_cons]; rw [Rps]
        exact ⟨v, _, rfl, h, h2⟩
      · rw [if_neg hf, if_neg hf]
        obtain ⟨i1, i2⟩ := ih r1 h2
        refine ⟨by simp [i1], ?_⟩
        simp only [List.map_cons]; rw [Rps]
        exact ⟨v', _, rfl, h1, i2⟩

/-! ### isinstance, built-in functions, methods -/
theorem sqT_tyx {a : Addr} {vs : List V} (h : SqT W.K H a vs) : TyX W.K H (.ref a) (.type "tuple") := by
  rcases h with (h | ⟨o, h⟩) | ⟨o, its, n, h, c, _⟩
  · exact .base (.tup h)
  · exact .fTuple h
  · exact .kTuple h c
def tyName : Option Kd → String
  | none => "NoneType"
  | some k => kdName k
theorem kind_ok {d : D} {v : V} {t : Option Kd} (s : Sim W H m st) (r : Rp W.K H m d v) (h : kindD st d = some t) : TyX W.K H v (.type (tyName t)) := by
  cases d <;> unfold kindD at h
  · rw [Rp] at r; cases h; subst r; exact .base .non
  · rw [Rp] at r; cases h; subst r; exact .base (.bl _)
  · rw [Rp] at r; cases h; subst r; exact .base (.int _)
  · rw [Rp] at r; cases h; subst r; exact .base (.str _)
  · cases h
    obtain ⟨a, vs, rfl, h1, h2⟩ := r.tup_ref
    exact sqT_tyx h1
  · simp only at h
    split at h
    · rename_i hx
      cases h
      obtain ⟨b, hb, vs, h1, h2⟩ := s.at hx
      rw [Rp] at r
      obtain ⟨a, ha, rfl⟩ := r
      rw [ha] at hb; cases hb
      exact .base (.lst h1)
    · cases h
  · cases h
theorem kit_kd (t : Option Kd) (k : Kd) : PySem.W.kitOne W.K (.type (tyName t)) (.type (kdName k)) = some (decide (t = some k ∨ (t = some .bool ∧ k = .int))) := by
  cases t with
  | none => cases k <;> rfl
  | some t => cases t <;> cases k <;> rfl
theorem isi_ok {d : D} {v : V} {k : Kd} (s : Sim W H m st) (r1 : Rp W.K H m d v) (h : Pg W E m H (isiD d k st) (kD W Q)) : rIsi W.K [v, .ty (kdName k)] H Q := by
  obtain ⟨t, e, h⟩ := h.ofO
  exact ⟨v, _, _, _, _, rfl, .ty _, kind_ok s r1 e, kit_kd t k, kD_now h s (by rw [Rp])⟩

theorem ints_rel : ∀ {xs : List D} {ns : List Int} {vs : List V}, intsD xs = some ns → Rps W.K H m xs vs → vs = ns.map V.int
  | [], ns, vs, e, r => by rw [intsD] at e; rw [Rps] at r; cases e; subst r; rfl
  | .int i :: xs, ns, vs, e, r => by
    rw [intsD] at e
    rw [Rps] at r
    obtain ⟨v, vs', rfl, h1, h2⟩ := r
    rw [Rp] at h1
    split at e
    · rename_i l q
      cases e
      rw [ints_rel q h2, h1]; rfl
    · cases e
  | .non :: xs, ns, vs, e, r => by simp [intsD] at e
  | .bl _ :: xs, ns, vs, e, r => by simp [intsD] at e
  | .str _ :: xs, ns, vs, e, r => by simp [intsD] at e
  | .tup _ :: xs, ns, vs, e, r => by simp [intsD] at e
  | .loc _ :: xs, ns, vs, e, r => by simp [intsD] at e
  | .fl _ :: xs, ns, vs, e, r => by simp [intsD] at e
theorem strs_rel : ∀ {xs : List D} {ns : List Tx} {vs : List V}, strsD xs = some ns → Rps W.K H m xs vs → vs = (ns.map sOf).map V.str
  | [], ns, vs, e, r => by rw [strsD] at e; rw [Rps] at r; cases e; subst r; rfl
  | .str i :: xs, ns, vs, e, r => by
    rw [strsD] at e
    rw [Rps] at r
    obtain ⟨v, vs', rfl, h1, h2⟩ := r
    rw [Rp] at h1
    split at e
    · rename_i l q
      cases e
      rw [strs_rel q h2, h1]; rfl
    · cases e
  | .non :: xs, ns, vs, e, r => by simp [strsD] at e
  | .bl _ :: xs, ns, vs, e, r => by simp [strsD] at e
  | .int _ :: xs, ns, vs, e, r => by simp [strsD] at e
  | .tup _ :: xs, ns, vs, e, r => by simp [strsD] at e
  | .loc _ :: xs, ns, vs, e, r => by simp [strsD] at e
  | .fl _ :: xs, ns, vs, e, r => by simp [strsD] at e
end
end Z
namespace Z
open PySem L2
section
variable {W : Wd} {E : XK} {X : Cx} {m : List Addr} {H : Hp} {st : Sto} {Q : VK}
theorem digit_ok {x : Tx} {i : Int} (h : digitT x = some i) : PySem.intText? (sOf x) = some i ∧ x.length ≤ 640 := by
  unfold digitT at h
  split at h
  · rename_i c
    split at h
    · rename_i hc
      cases h
      have hc' : c = 48 ∨ c = 49 ∨ c = 50 ∨ c = 51 ∨ c = 52 ∨ c = 53 ∨ c = 54 ∨ c = 55 ∨ c = 56 ∨ c = 57 := by omega
      refine ⟨?_, by simp⟩
      rcases hc' with rfl | rfl | rfl | rfl | rfl | rfl | rfl | rfl | rfl | rfl <;> decide +kernel
    · cases h
  · cases h
def rLstS : List V → Hp → VK → Prop := fun xs H Q => ∃ x : Str, xs = [.str x] ∧ x.cps.size ≤ sizeLine ∧ ∀ l, H l = none → Q (.ref l) (upd H l (.lst (x.cps.toList.map fun c => V.str ⟨#[c]⟩)))
theorem call_listS (hc : X.calm = true) : CallR X (.type "list") rLstS := by
  intro pins s σ H xs us Q I r h
  obtain ⟨x, rfl, hl, q⟩ := h
  obtain ⟨u, rfl, rx⟩ := vals1 r
  obtain ⟨t, rfl⟩ := rx
  refine call_list_str (I.ok.hd hc) x t (fun h' tk acc c' kp e hi => ⟨.ref s.heap.objs.size, _, I.laid kp (Nat.le_refl _) (show ObjOk X.prog X.w _ h' _ (.lst (x.cps.toList.map fun c => V.str ⟨#[c]⟩)) from ⟨?_, acc.toList, c', ?_, by rw [Array.toArray_toList]; exact e⟩), rfl, q _ (I.hok.fresh (Nat.le_refl _))⟩) hl
  · rw [List.length_map, Array.length_toList]; exact hl
  · have hs := hi.1
    refine vals_of_at (by rw [List.length_map, Array.length_toList, Array.length_toList]; exact hs.symm) fun j y u hy hu => ?_
    obtain ⟨c, t', hc', rfl⟩ := hi.2 j u (by rw [← hu, Array.getElem?_toList])
    rw [List.getElem?_map, Array.getElem?_toList, hc'] at hy
    cases hy
    exact ⟨t', rfl⟩
def rBi (W : Wd) (b : Bi) : List V → Hp → VK → Prop := fun xs H Q => match b with
  | .len => (∃ p ys, xs = [.ref p] ∧ (SqL W.K H p ys ∨ SqT W.K H p ys) ∧ Q (.int ys.length) H) ∨ (∃ z, xs = [.str z] ∧ z.length ≤ sizeLine ∧ Q (.int z.length) H)
  | .int => ((∃ i, xs = [.int i] ∧ Q (.int i) H) ∨ ∃ k, xs = [.bl k] ∧ Q (.int (if k then 1 else 0)) H) ∨ (∃ a n, xs = [.str a] ∧ PySem.intText? a = some n ∧ a.length ≤ 640 ∧ Q (.int n) H)
  | .list => (∃ p ys, xs = [.ref p] ∧ (SqL W.K H p ys ∨ SqT W.K H p ys) ∧ ∀ l, H l = none → Q (.ref l) (upd H l (.lst ys))) ∨ rLstS xs H Q
  | .tuple => ∃ p ys, xs = [.ref p] ∧ ((SqL W.K H p ys ∧ ∀ l, H l = none → Q (.ref l) (upd H l (.tup ys))) ∨ (SqT W.K H p ys ∧ Q (.ref p) H))
  | .str => (∃ i, xs = [.int i] ∧ i.natAbs.log2 < 1920 ∧ Q (.str (toString i)) H) ∨ ∃ a, xs = [.str a] ∧ Q (.str a) H
  | .sum => rSum W.K xs H Q
def biVal : Bi → Value
  | .len => .builtin "len" | .int => .type "int" | .list => .type "list" | .tuple => .type "tuple" | .str => .type "str" | .sum => .builtin "sum"
theorem call_rBi (b : Bi) (hK : X.K = W.K) (hc : X.calm = true) : CallR X (biVal b) (rBi W b) := by
  cases b
  · have q := (call_len_seq (X := X)).or (call_len_str (X := X)); rw [hK] at q; exact q
  · exact (call_int1 (X := X)).or (call_int_str (X := X))
  · have q := (call_list_of (X := X)).or (call_listS hc); rw [hK] at q; exact q
  · have q := call_tuple_of (X := X); rw [hK] at q; exact q
  · exact (call_str_int (X := X)).or SkE.call_str_str
  · have q := cr_sum hc; rw [hK] at q; exact q
theorem signs_rel {K : PySem.W.Frag} {H : Hp} {m : List Addr} : ∀ x : Tx, Rps K H m (x.map fun c => D.str [c]) (x.map fun c => V.str ⟨#[c]⟩)
  | [] => by rw [List.map_nil, List.map_nil, Rps]
  | z :: x => by rw [List.map_cons, List.map_cons, Rps]; exact ⟨_, _, rfl, by rw [Rp]; rfl, signs_rel x⟩
theorem digit_str {i : Int} (h0 : 0 ≤ i) (h1 : i < 10) : (toString i : Str) = sOf [48 + i.toNat] := by
  have : i = 0 ∨ i = 1 ∨ i = 2 ∨ i = 3 ∨ i = 4 ∨ i = 5 ∨ i = 6 ∨ i = 7 ∨ i = 8 ∨ i = 9 := by omega
  rcases this with rfl | rfl | rfl | rfl | rfl | rfl | rfl | rfl | rfl | rfl <;> decide +kernel
theorem bi_ok {b : Bi} {d : D} {v : V} (s : Sim W H m st) (r1 : Rp W.K H m d v) (h : Pg W E m H (biD b d st) (kD W Q)) : rBi W b [v] H Q := by
  cases b <;> unfold biD at h <;> simp only at h
  · split at h
    · obtain ⟨c, h⟩ := h.ite
      rw [Rp] at r1; subst r1
      exact .inr ⟨_, rfl, by rw [sOf_len]; exact lim_le c, by rw [sOf_len]; exact kD_now h s (by rw [Rp])⟩
    · obtain ⟨xs, e, h⟩ := h.ofO
      obtain ⟨a, vs, rfl, h1, h2⟩ := seqD_ok s r1 e
      exact .inl ⟨a, vs, rfl, h1, by rw [h2.len]; exact kD_now h s (by rw [Rp])⟩
  · split at h
    · rw [Rp] at r1; subst r1
      exact .inl (.inl ⟨_, rfl, kD_now h s (by rw [Rp])⟩)
    · rw [Rp] at r1; subst r1
      exact .inl (.inr ⟨_, rfl, kD_now h s (by rw [Rp])⟩)
    · obtain ⟨i, e, h⟩ := h.ofO
      rw [Rp] at r1; subst r1
      obtain ⟨e1, e2⟩ := digit_ok e
      exact .inr ⟨_, _, rfl, e1, by rw [sOf_len]; exact e2, kD_now h s (by rw [Rp])⟩
    · exact h.elim
  · split at h
    · rename_i x
      obtain ⟨c, h⟩ := h.ite
      rw [Rp] at r1; subst r1
      refine .inr ⟨sOf x, rfl, by show x.toArray.size ≤ _; rw [List.size_toArray]; exact lim_le c, fun l hl => new_lst s hl ?_ h⟩
      show Rps W.K H m _ ((x.toArray.toList).map fun c => V.str ⟨#[c]⟩)
      rw [List.toList_toArray]
      exact signs_rel x
    · obtain ⟨xs, e, h⟩ := h.ofO
      obtain ⟨a, vs, rfl, h1, h2⟩ := seqD_ok s r1 e
      exact .inl ⟨a, vs, rfl, h1, fun l hl => new_lst s hl h2 h⟩
  · obtain ⟨xs, e, h⟩ := h.ofO
    obtain ⟨a, vs, rfl, h1, h2⟩ := seqD_ok s r1 e
    refine ⟨a, vs, rfl, ?_⟩
    rcases h1 with h1 | h1
    · exact .inl ⟨h1, fun l hl => new_tup s hl h2 h⟩
    · exact .inr ⟨h1, kD_now h s (by rw [Rp]; exact ⟨a, vs, rfl, h1, h2⟩)⟩
  · split at h
    · rename_i i
      obtain ⟨c, h⟩ := h.ite
      rw [Rp] at r1; subst r1
      refine .inl ⟨_, rfl, ?_, by rw [digit_str c.1 c.2]; exact kD_now h s (by rw [Rp])⟩
      have : i = 0 ∨ i = 1 ∨ i = 2 ∨ i = 3 ∨ i = 4 ∨ i = 5 ∨ i = 6 ∨ i = 7 ∨ i = 8 ∨ i = 9 := by omega
      rcases this with rfl | rfl | rfl | rfl | rfl | rfl | rfl | rfl | rfl | rfl <;> decide
    · rw [Rp] at r1; subst r1
      exact .inr ⟨_, rfl, kD_now h s (by rw [Rp])⟩
    · exact h.elim
  · obtain ⟨xs, e, h⟩ := h.ofO
    obtain ⟨a, vs, rfl, h1, h2⟩ := lstD_ok s r1 e
    obtain ⟨ns, e2, h⟩ := h.ofO
    have := ints_rel e2 h2
    subst this
    exact ⟨a, ns, rfl, h1, kD_now h s (by rw [Rp])⟩

/-! ### methods -/
theorem join_ok (sep : Tx) (ys : List Tx) : Txt.join (sOf sep) (ys.map sOf) = sOf (joinT sep ys) := by

  rw [TL.join_eq]
  induction ys with
  | nil => rfl
  | cons x r ih =>
    cases r with
    | nil => rfl
    | cons z r =>
      show sOf x ++ sOf sep ++ Str.join (sOf sep) ((z :: r).map sOf) = sOf (x ++ sep ++ joinT sep (z :: r))
      rw [ih, sOf_app, sOf_app]
theorem strs_rps {K : PySem.W.Frag} {H : Hp} {m : List Addr} : ∀ xs : List Tx, Rps K H m (xs.map D.str) ((xs.map sOf).map V.str)
  | [] => by rw [List.map_nil, List.map_nil, List.map_nil, Rps]
  | z :: x => by rw [List.map_cons, List.map_cons, List.map_cons, Rps]; exact ⟨_, _, rfl, by rw [Rp], strs_rps x⟩
def meTy : Me → String
  | .join => "str"
  | .split => "str"
  | _ => "list"
def rMe0 (W : Wd) (me : Me) : V → List V → Hp → VK → Prop := fun x xs H Q => match me with
  | .pop => rPop x xs H Q
  | .clear => rClear x xs H Q
  | _ => False
def rMe1 (W : Wd) (me : Me) : V → List V → Hp → VK → Prop := fun x xs H Q => match me with
  | .append => rAppend x xs H Q
  | .extend => rExtend x xs H Q ∨ rExtendT W.K x xs H Q
  | .pop => rPopAt x xs H Q
  | .index => rIndexD W.K x xs H Q
  | .join => ∃ a p, ∃ ys : List Str, x = .str a ∧ xs = [.ref p] ∧ (SqL W.K H p (ys.map V.str) ∨ SqT W.K H p (ys.map V.str)) ∧ (ys.map (·.length)).sum + ys.length * a.length ≤ 16777216 ∧ Q (.str (Txt.join a ys)) H
  | .split => ∃ a b : Str, x = .str a ∧ xs = [.str b] ∧ (b.length == 0) = false ∧ a.length + 2 ≤ sizeLine ∧ rNewStrs (Txt.split a b) H Q
  | _ => False
def meId : Me → String
  | .append => "list.append" | .pop => "list.pop" | .extend => "list.extend" | .join => "str.join" | .clear => "list.clear" | .index => "list.index" | .split => "str.split"
theorem recv_ok {me : Me} {d : D} {v : V} (s : Sim W H m st) (r : Rp W.K H m d v) (h : recvOk me st d = true) : tyV W.K (meTy me) v H := by
  have lst : kindD st d = some (some .lst) → tyV W.K "list" v H := fun h => by
    cases d <;> unfold kindD at h <;> simp at h
    split at h
    · rename_i hx
      obtain ⟨b, hb, vs, h1, h2⟩ := s.at hx
      rw [Rp] at r
      obtain ⟨a, ha, rfl⟩ := r
      rw [ha] at hb; cases hb
      exact .inl ⟨rfl, vs, SqL.of h1⟩
    · cases h
  cases me <;> simp only [recvOk, decide_eq_true_eq] at h
  · exact lst h
  · exact lst h
  · exact lst h
  · split at h
    · rw [Rp] at r; subst r; rfl
    · cases h
  · exact lst h
  · exact lst h
  · split at h
    · rw [Rp] at r; subst r; rfl
    · cases h
theorem me0_mt (me : Me) (h : me = .pop ∨ me = .clear) : MtM X (meId me) (rMe0 W me) := by
  rcases h with rfl | rfl
  · exact mt_pop
  · exact mt_clear
theorem list_at {n : Nat} {xs : List D} {v : V} (s : Sim W H m st) (r : Rp W.K H m (.loc n) v) (h : st[n]? = some (.lst xs)) : ∃ a vs, v = .ref a ∧ m[n]? = some a ∧ H a = some (.lst vs) ∧ Rps W.K H m xs vs := by
  obtain ⟨b, hb, vs, h1, h2⟩ := s.at h
  rw [Rp] at r
  obtain ⟨a, ha, rfl⟩ := r
  rw [ha] at hb; cases hb
  exact ⟨_, vs, rfl, ha, h1, h2⟩
/-- a list's change -/
theorem chg_lst {n : Nat} {a : Addr} {xs : List D} {vs : List V} {d : D} {v : V} (s : Sim W H m st) (ha : m[n]? = some a) (r : Rps W.K H m xs vs) (rv : Rp W.K H m d v) (h : Pg W E m H (.ok d (st.set n (.lst xs))) (kD W Q)) : Q v (upd H a (.lst vs)) := by
  have e0 : Ext m m H (upd H a (.lst vs)) := ⟨⟨[], by simp⟩, fun b u h _ nn => ⟨by
    rw [upd_ne fun z => nn (by rw [z]; exact List.mem_of_getElem? ha)]; exact h, nn⟩⟩
  obtain ⟨s', e⟩ := s.write ha (o := .lst vs) (c := .lst xs) ⟨vs, upd_same, r.up s e0⟩
  exact h.go e s' _ (rv.up s e)
theorem me0_ok {me : Me} {d : D} {v : V} (s : Sim W H m st) (r1 : Rp W.K H m d v) (h : Pg W E m H (me0D me d st) (kD W Q)) : rMe0 W me v [] H Q := by
  unfold me0D at h
  split at h
  · split at h
    · rename_i hx
      obtain ⟨a, vs, rfl, ha, h1, h2⟩ := list_at s r1 hx
      split at h
      · rename_i xs x hl
        rw [List.getLast?_eq_getElem?] at hl
        obtain ⟨y, hy, ry⟩ := h2.get hl
        exact ⟨a, vs, y, rfl, rfl, h1, by rw [h2.len]; exact hy, chg_lst s ha h2.dropLast ry h⟩
      · exact h.elim
    · exact h.elim
  · split at h
    · rename_i hx
      obtain ⟨a, vs, rfl, ha, h1, h2⟩ := list_at s r1 hx
      exact ⟨a, vs, rfl, rfl, h1, chg_lst s ha (by rw [Rps]) (by rw [Rp]) h⟩
    · exact h.elim
  · exact h.elim
theorem me1_mt (me : Me) (hK : X.K = W.K) (hu : X.A.units + 100 < cLine) (h : me ≠ .clear) : MtM X (meId me) (rMe1 W me) := by
  cases me
  · exact mt_append
  · exact mt_popAt
  · have q1 := mt_extend (X := X)
    have q2 := mt_extendT (X := X)
    rw [hK] at q2
    intro pins s σ H x xs v us Q I rx rv h
    rcases h with h | h
    · exact q1 pins s σ H x xs v us Q I rx rv h
    · exact q2 pins s σ H x xs v us Q I rx rv h
  · have q := mt_join (X := X); rw [hK] at q; exact q
  · exact absurd rfl h
  · have q := (mt_indexD (X := X) (by omega)); rw [hK] at q; exact q
  · exact fun pins s σ H x xs v us Q I rx rs h => mt_split (X := X) pins s σ H x xs v us Q I rx rs h
theorem me1_ok {me : Me} {d e : D} {v u : V} (s : Sim W H m st) (r1 : Rp W.K H m d v) (r2 : Rp W.K H m e u) (h : Pg W E m H (me1D me d e st) (kD W Q)) : rMe1 W me v [u] H Q := by
  unfold me1D at h
  split at h
  · split at h
    · rename_i hx
      obtain ⟨c, h⟩ := h.ite
      obtain ⟨a, vs, rfl, ha, h1, h2⟩ := list_at s r1 hx
      exact ⟨a, vs, u, rfl, rfl, h1, by rw [h2.len]; exact lim_lt c, chg_lst s ha (h2.append (.one r2)) (by rw [Rp]) h⟩
    · exact h.elim
  · split at h
    · rename_i hx
      rw [Rp] at r2; subst r2
      split at h
      · rename_i k hk
        split at h
        · rename_i x hxk
          obtain ⟨c, h⟩ := h.ite
          obtain ⟨a, vs, rfl, ha, h1, h2⟩ := list_at s r1 hx
          obtain ⟨y, hy, ry⟩ := h2.get hxk
          obtain ⟨k1, k2, k3, k4⟩ := ixN_seq hk
          have c' : (_ : List D).length ≤ 100000 := c
          exact ⟨a, vs, _, k, y, rfl, rfl, h1, by omega, by omega, by rw [h2.len]; exact k1, hy, chg_lst s ha (h2.erase k) ry h⟩
        · exact h.elim
      · exact h.elim
    · exact h.elim
  · split at h
    · split at h
      · rename_i hx hy
        obtain ⟨c, h⟩ := h.ite
        obtain ⟨a, vs, rfl, ha, h1, h2⟩ := list_at s r1 hx
        obtain ⟨b, us, rfl, hb, g1, g2⟩ := list_at s r2 hy
        exact .inl ⟨a, b, vs, us, rfl, rfl, h1, g1, by rw [h2.len, g2.len]; exact lim_le c, chg_lst s ha (h2.append g2) (by rw [Rp]) h⟩
      · exact h.elim
    · split at h
      · rename_i hx
        obtain ⟨c, h⟩ := h.ite
        obtain ⟨a, vs, rfl, ha, h1, h2⟩ := list_at s r1 hx
        obtain ⟨b, us, rfl, g1, g2⟩ := r2.tup_ref
        exact .inr ⟨a, b, vs, us, rfl, rfl, h1, g1, by rw [h2.len, g2.len]; exact lim_le c, chg_lst s ha (h2.append g2) (by rw [Rp]) h⟩
      · exact h.elim
    · exact h.elim
  · split at h
    · rename_i xs p hx ep
      split at h
      · rename_i ps eps
        obtain ⟨c, h⟩ := h.ite
        split at h
        · rename_i j hj
          obtain ⟨a, vs, rfl, ha, h1, h2⟩ := list_at s r1 hx
          obtain ⟨ps', ee, hall⟩ := tup_py s h2 eps
          cases ee
          obtain ⟨k1, k2, k3⟩ := List.findIdx?_eq_some_iff_getElem.mp hj
          refine ⟨a, u, p, ps, j, ps[j], rfl, rfl, .lst (SqL.of h1) hall, toP_ok s 2 ep r2, c.2, c.1, List.getElem?_eq_getElem k1, k2, fun mm z' hm hz => ?_, kD_now h s (by rw [Rp])⟩
          obtain ⟨hl, rfl⟩ := List.getElem?_eq_some_iff.mp hz
          simpa using k3 mm hm
        · exact h.elim
      · exact h.elim
    · exact h.elim
  · obtain ⟨xs, e1, h⟩ := h.ofO
    obtain ⟨ys, e2, h⟩ := h.ofO
    obtain ⟨c, h⟩ := h.ite
    rw [Rp] at r1; subst r1
    obtain ⟨a, vs, rfl, h1, h2⟩ := seqD_ok s r2 e1
    have := strs_rel e2 h2
    subst this
    refine ⟨_, a, ys.map sOf, rfl, rfl, h1, ?_, ?_⟩
    · have z : (List.map (fun x => x.length) (List.map sOf ys)) = ys.map List.length := by
        rw [List.map_map]; exact List.map_congr_left fun x _ => sOf_len x
      rw [z, sOf_len, List.length_map]
      exact Nat.le_trans c (by decide)
    · rw [join_ok]; exact kD_now h s (by rw [Rp])
  · split at h
    · rename_i x _ c
      obtain ⟨cc, h⟩ := h.ite
      rw [Rp] at r1 r2; subst r1 r2
      refine ⟨_, _, rfl, rfl, rfl, by rw [sOf_len]; exact Nat.le_trans cc.2 (by decide), fun p hp => ?_⟩
      have e : Txt.split (sOf x) (sOf [c]) = (splitT c x).map sOf := SX.split_S (a := x) (b := [c]) (by simp) (by simp [cc.1])
      rw [e]
      exact new_lst s hp (strs_rps _) h
    · exact h.elim
  · exact h.elim
end
end Z
namespace Z
open PySem L2
/-! ### the text's forms -/
section
variable {e o : Expr} {es : List Expr} {env : PySem.Env} {pos apos : Pos} {nm : Str}
theorem star_cons (h : isStar e = false) : starEach (e :: es) env = (false, eval e env) :: starEach es env := by
  cases e <;> first | rfl | cases h
def noStars : List Expr → Bool
  | [] => true
  | e :: es => !isStar e && noStars es
theorem star_plain : ∀ {es : List Expr}, noStars es = true → (backTo pos (starEach es env)).any (·.1) = false
  | [], _ => rfl
  | e :: es, h => by
    rw [noStars, Bool.and_eq_true] at h
    have h1 : isStar e = false := by simpa using h.1
    rw [star_cons h1]
    show (false || (backTo pos (starEach es env)).any (·.1)) = false
    rw [star_plain h.2]; rfl
theorem star_few : ∀ {es : List Expr}, noStars es = true → (backTo pos (starEach es env)).all (fun x => !x.1) = true
  | [], _ => rfl
  | e :: es, h => by
    rw [noStars, Bool.and_eq_true] at h
    have h1 : isStar e = false := by simpa using h.1
    rw [star_cons h1]
    show (true && (backTo pos (starEach es env)).all (fun x => !x.1)) = true
    rw [star_few h.2]; rfl
theorem base_of (h : baseOk o = true) : attributeBase o nm env (eval o env) = eval o env := by
  cases o with
  | Call f as ks p =>
    cases as with
    | nil => cases h
    | cons a as => cases f <;> rfl
  | _ => rfl
theorem plainIx_of (h : isSlice e = false) : PlainIx e := fun o i => by
  cases e <;> first | rfl | cases h
theorem foldSet_of (h : isSetD e = false) : ∀ x, foldedSetIterable e env x = pure x := fun x => by
  cases e <;> first | rfl | cases h
def fewForm (n : Nat) (es : List Expr) (env : PySem.Env) (pos : Pos) : Prop := ((backTo pos (starEach es env)).all (fun x => !x.1) && (backToKw pos (keywordEach [] env)).all (fun x => x.1.isSome)
      && decide (es.length + ([] : List Keyword).length + (if ([] : List Keyword).isEmpty then 0 else 1) < 30)) = true
theorem few_of (h : noStars es = true) (hn : es.length < 20) : fewForm 0 es env pos := by
  unfold fewForm
  rw [star_few h]
  show (true && true && decide (es.length + 0 + 0 < 30)) = true
  rw [decide_eq_true (by omega : es.length + 0 + 0 < 30)]; rfl
theorem meth_form (hb : baseOk o = true) (hl : (apos.endLine == pos.line) = true) (hs : noStars es = true) (hn : es.length < 20) :
    eval (.Call (.Attribute o nm apos) es [] pos) env = (do
      let ov ← eval o env
      standAt apos.atName
      let (f, first) ← holding [ov] (getMethod ov nm (do return (← importBound o env).getD true))
      callWith pos f first (backTo pos (starEach es env)) (backToKw pos (keywordEach [] env))) := by
  have h1 : methodCallForm (es.length + ([] : List Keyword).length) (backTo pos (starEach es env)) (backToKw pos (keywordEach [] env)) = true := few_of hs hn
  have e1 : eval (.Call (.Attribute o nm apos) es [] pos) env = (do
    let ov ← attributeBase o nm env (eval o env)
    standAt apos.atName
    methodCall o nm apos pos env ov (es.length + ([] : List Keyword).length) (backTo pos (starEach es env)) (backToKw pos (keywordEach [] env))) := by rfl
  rw [e1, base_of hb]
  unfold methodCall methodCallPos
  rw [h1, hl]
  rfl
def plainT : Expr → Bool
  | .UnaryOp .Not _ _ => false | .BoolOp .. => false | .IfExp .. => false | .Compare .. => false
  | _ => true
theorem isTrue_of (h : plainT e = true) : ∀ whole, isTrue e env whole = (do let v ← whole; standAt e.pos; holding [v] (truthy v)) := by
  intro whole
  cases e with
  | UnaryOp op x p => cases op <;> first | rfl | cases h
  | BoolOp => cases h
  | IfExp => cases h
  | Compare => cases h
  | _ => rfl
end

/-! ### where one stands -/
structure XOk (W : Wd) (cc : CC) (Ns : List Str) (scp : Scope) (k : Nat) (E : XK) (X : Cx) : Prop where
  prog : X.prog = W.P
  w : X.w = W.w
  K : X.K = W.K
  mg : X.mg = W.mg
  base : X.base = W.base
  N : X.N = Ns
  nd : Ns.Nodup
  sc : X.env.scope = scp
  calm : X.calm = true
  room : Room (4 * k + 2) X.A
  pass : Passes (L2.CX X.prog X.w) X E
  lm : ∀ c q, cc.lam = some (c, q) → Room (4 * k + 4) X.A ∧ X.env.code = .ref c ∧ X.env.qual = q ∧ ∃ P, LamX.TabB X.base X.mg c P ∧ (P, q ++ "<lambda>") ∈ W.T ∧ ∀ p ∈ W.T, p.1 = P → p.2 = q ++ "<lambda>"
/-- a function keeps what its evaluation says -/
def spE (W : Wd) (C : Fn) (i : Nat) : Sp := fun vs H Q E => ∃ m st ds, Sim W H m st ∧ Rps W.K H m ds vs ∧ vs.length = (W.ps i).length ∧ Pg W E m H (C i ds st) (kD W Q)
/-- an exception of the work, told -/
def EchZ (W : Wd) (Q : VK) : XK := fun cls dx H' => ∃ (c : Nat) (w : Tx) (fo : Option Str) (v : V), cls = .ref (W.ca c) ∧ W.pr.tw c = some (w, fo) ∧ (fo = none → dx = none ∧ v = .int 0) ∧ (∀ f, fo = some f → ∃ a, dx = some a ∧ H' a = some (.xd [(f, v)])) ∧
  ∀ H'' p, (∀ b o, H' b = some o → H'' b = some o) → H'' p = none → Q (.ref p) (upd H'' p (.tup [.str (sOf w), v]))
def TTz (W : Wd) : (XK → Hp → VK → Prop) → Hp → VK → Prop := fun tl H Q => tl (EchZ W Q) H Q
/-- the def that tells of a work -/
structure ToldOk (W : Wd) (x : Str) : Prop where
  ex : ∃ (g : Addr) (pg : Arguments) (bg : List Stmt) (sg : Scope) (dV kV doc pm cdv ct oc : Value) (an od : Option Addr) (osl : Array (Option Value)) (Ng : List Str) (b : Str), W.mg x = some (.ref g) ∧ PySem.W.keepIn W.K (.ref g) = true ∧
    W.K.lookup g = some ⟨oc, od, .func (PySem.W.fnOf x x pg bg sg dV kV doc pm an cdv ct), osl⟩ ∧ PySem.W.codeIn W.K cdv x = true ∧ Binds W.K (PySem.W.fnOf x x pg bg sg dV kV doc pm an cdv ct) [b] [] ∧ FnScope Ng [b] sg ∧ Ng[0]? = some b ∧ Vis sg b ∧
    (b == ("__debug__" : Str)) = false ∧ (b == ("__classdict__" : Str)) = false ∧
    ∀ (X : Cx) (q : Str), X.prog = W.P → X.w = W.w → X.K = W.K → X.mg = W.mg → X.base = W.base → Room 2 X.A → LamX.GivesTo X Ng x sg g cdv bg b q (TTz W)
/-- an own exception class without own __init__ -/
structure Exo0 (K : PySem.W.Frag) (C : Addr) : Prop where
  ex : PySem.W.excIn K C [.type "ValueError", .type "Exception", .type "BaseException", .type "object"] "ValueError.__new__" = true
  kp : PySem.W.keepIn K (.ref C) = true
  sb : PySem.W.subIn K (.ref C) (.type "BaseException") = some true
  ty : PySem.W.typeIn K (.ref C) = some (.type "type")
/-- what an own __init__ does: Base.__init__(self, ..); self.f = v -/
def spI (C : Addr) (f : Str) : Sp := fun vs H Q _ => ∃ (a : Addr) (v : V), vs = [.ref a, v] ∧ H a = some (exo a C none) ∧ ∀ dx, H dx = none → dx ≠ a → Q .non (upd (upd H dx (exd dx [(f, v)])) a (exo a C (some dx)))
/-- .. with one, which keeps its one argument as f -/
structure Exo1 (W : Wd) (C : Addr) (f : Str) : Prop where
  oc : OexC W.K C
  ex : ∃ (fI : Addr) (fd : FuncData) (ps : List Str), PySem.W.findIn W.K (.ref C) "__init__" = some (some (.ref fI)) ∧ PySem.W.typeIn W.K (.ref fI) = some (.type "function") ∧ Binds W.K fd ps [] ∧ FnOk W.P W.w W.K W.mg W.base (L2.CX W.P W.w) 1 fI fd ps (spI C f)
/-- what the program's top has left -/
structure WOk (W : Wd) (cc : CC) : Prop where
  fn : ∀ x i, cc.fns.lookup x = some i → W.mg x = some (.ref (W.fa i)) ∧ PySem.W.keepIn W.K (.ref (W.fa i)) = true ∧ ∃ fi, W.pr.fns[i]? = some fi
  bi : ∀ (i : Nat) (fi : FnIR), W.pr.fns[i]? = some fi → Binds W.K (W.fd i) (W.ps i) [] ∧ (W.ps i).length = fi.np
  gl : ∀ x d, cc.gls.lookup x = some d → ∃ u v, W.mg x = some u ∧ RelV v u ∧ ∀ H m, Rp W.K H m d v
  bl : ∀ x, x ∈ cc.bls → W.mg x = none
  cl : ∀ x c, cc.cls.lookup x = some c → W.mg x = some (.ref (W.ca c)) ∧ c < W.ncl ∧ ∃ f, W.pr.ini c = some f
  cls : ∀ c, c < W.ncl → Cls W.K (W.ca c)
  nf : ∀ c f, c < W.ncl → f ∈ cc.flds → NoAttr W.K (W.ca c) f
  mkk : ∀ c f, W.pr.ini c = some f → Mk W.K (W.ca c) (W.fa f) ∧ ∃ fi, W.pr.fns[f]? = some fi
  mt : ∀ x mi c f, cc.mns.lookup x = some mi → c < W.ncl → W.pr.meth c mi = some f → Meth W.K (W.ca c) x (W.fa f) ∧ ∃ fi, W.pr.fns[f]? = some fi
  td : ∀ x, cc.tdef = some x → ToldOk W x
  x0 : ∀ x c, cc.ex0.lookup x = some c → W.mg x = some (.ref (W.ca c)) ∧ Exo0 W.K (W.ca c)
  x1 : ∀ x c f, cc.ex1.lookup x = some (c, f) → W.mg x = some (.ref (W.ca c)) ∧ Exo1 W (W.ca c) f
/-- the functions keep their promises at a level -/
def Lv (W : Wd) (k : Nat) : Prop := ∀ (i : Nat) (fi : FnIR), W.pr.fns[i]? = some fi → FnOk W.P W.w W.K W.mg W.base (L2.CX W.P W.w) (4 * k + 1) (W.fa i) (W.fd i) (W.ps i) (spE W (W.pr.call W.F k) i)
theorem step_np {W : Wd} {E : XK} {m : List Addr} {H : Hp} {pr : Prog} {F : Nat} {C : Cl} {i : Nat} {ds : List D} {st : Sto} {fi : FnIR} {k : D → List Addr → Sto → Hp → Prop} (h : Pg W E m H (pr.step F C i ds st) k) (hi : pr.fns[i]? = some fi) : ds.length = fi.np := by
  unfold Prog.step at h
  rw [hi] at h
  exact h.ite.1
theorem call_np {W : Wd} {E : XK} {m : List Addr} {H : Hp} {pr : Prog} {F k i : Nat} {ds : List D} {st : Sto} {fi : FnIR} {q : D → List Addr → Sto → Hp → Prop} (h : Pg W E m H (pr.call F k i ds st) q) (hi : pr.fns[i]? = some fi) : ds.length = fi.np := by
  cases k with
  | zero => exact h.elim
  | succ k => exact step_np h hi

section
variable {W : Wd} {cc : CC} {Ns : List Str} {scp : Scope} {k : Nat} {E : XK} {X : Cx} {C : Cl}
/-- the functions called -/
def Wd.cl (W : Wd) (k : Nat) : Cl := W.pr.cl W.F k
theorem vis_of {x : Str} (h : visB scp x = true) (hs : X.env.scope = scp) : Vis X.env.scope x := by
  unfold visB at h
  rw [hs]
  split at h
  · exact .inl (by assumption)
  · exact .inr (.inl (by assumption))
  · exact .inr (.inr (by assumption))
  · cases h
theorem gl_of {x : Str} (h : glB scp x = true) (hs : X.env.scope = scp) : Gl X x ∧ (x == ("__debug__" : Str)) = false := by
  unfold glB at h
  rw [Bool.and_eq_true, decide_eq_true_eq, decide_eq_true_eq] at h
  refine ⟨?_, h.2⟩
  show X.env.scope.names.lookup x = _
  rw [hs]; exact h.1
theorem tE_var {i : Nat} {σ : L2.St} {H : Hp} {Q : VK} (h : tE W E (ev C (.var i)) σ H Q) : tVar i σ H Q := by
  obtain ⟨m, ρ, st, s, r, p⟩ := h
  rw [ev] at p
  split at p
  · rename_i d hd
    obtain ⟨v, h1, h2⟩ := r.2 i d hd
    exact ⟨v, h1, kD_now p s h2⟩
  · exact p.elim
theorem tE_cst {d : D} {v : V} {σ : L2.St} {H : Hp} {Q : VK} (h : tE W E (fun _ st => .ok d st) σ H Q) (r : ∀ m, Rp W.K H m d v) : Q v H := by
  obtain ⟨m, ρ, st, s, _, p⟩ := h
  exact kD_now p s (r m)
/-- a bool, by what gives it -/
theorem tE_bl {f : Env → Sto → R D} {σ : L2.St} {H : Hp} {Q : Bool → Hp → Prop} (h : tT W E (fun ρ st => (f ρ st).bind fun x st => bOf st x) σ H Q) : tE W E f σ H fun v H' => ∃ b, v = .bl b ∧ Q b H' := by
  obtain ⟨m, ρ, st, s, r, p⟩ := h
  refine ⟨m, ρ, st, s, r, p.bind.imp fun d m1 st1 H1 e1 s1 p1 v rv => ?_⟩
  cases d with
  | bl b => rw [Rp] at rv; subst rv; exact ⟨b, rfl, p1.now s1⟩
  | _ => exact p1.elim
/-- a truth value read from a test -/
theorem Pg.bOf {β : Type} {m : List Addr} {H : Hp} {d : D} {st : Sto} {f : Bool → Sto → R β} {k : β → List Addr → Sto → Hp → Prop} (h : Pg W E m H ((bOf st d).bind f) k) : ∃ b, d = .bl b ∧ Pg W E m H (f b st) k := by
  cases d with
  | bl b => exact ⟨b, rfl, h⟩
  | _ => exact h.elim

/-! ### boolean connectives -/
theorem and_T {a b : IE} {σ : L2.St} {H : Hp} {Q : Bool → Hp → Prop} (h : tT W E (evT C (.and a b)) σ H Q) : tAnd (tT W E (evT C a)) (tT W E (evT C b)) σ H Q := by
  obtain ⟨m, ρ, st, s, r, p⟩ := h
  have p : Pg W E m H (((ev C a ρ st).bind fun x st => (bOf st x).bind fun k st => if k = true then (ev C b ρ st).bind fun y st => (bOf st y).bind fun j st => .ok (.bl j) st else .ok (.bl false) st).bind fun x st => bOf st x) (kB Q) := by
    unfold evT at p; rw [ev] at p; exact p
  refine ⟨m, ρ, st, s, r, ?_⟩
  unfold evT
  cases h1 : ev C a ρ st with
  | ok x st1 =>
    rw [h1] at p
    cases x with
    | bl k =>
      intro H1 m1 e1 s1
      cases k with
      | true =>
        refine iteT ⟨m1, ρ, st1, s1, r.up s e1, ?_⟩
        have p1 := Pg.up e1 p
        change Pg W E m1 H1 (((ev C b ρ st1).bind fun y st => (bOf st y).bind fun j st => .ok (.bl j) st).bind fun x st => bOf st x) (kB Q) at p1
        show Pg W E m1 H1 ((ev C b ρ st1).bind fun x st => bOf st x) (kB Q)
        cases h2 : ev C b ρ st1 with
        | ok y st2 =>
          rw [h2] at p1
          cases y with
          | bl j => exact p1
          | _ => exact p1.elim
        | exc x st2 => rw [h2] at p1; exact p1
        | stuck => rw [h2] at p1; exact p1
      | false => exact iteF (p H1 m1 e1 s1)
    | _ => exact p.elim
  | exc x st1 => rw [h1] at p; exact p
  | stuck => rw [h1] at p; exact p
theorem or_T {a b : IE} {σ : L2.St} {H : Hp} {Q : Bool → Hp → Prop} (h : tT W E (evT C (.or a b)) σ H Q) : tOr (tT W E (evT C a)) (tT W E (evT C b)) σ H Q := by
  obtain ⟨m, ρ, st, s, r, p⟩ := h
  have p : Pg W E m H (((ev C a ρ st).bind fun x st => (bOf st x).bind fun k st => if k = true then .ok (.bl true) st else (ev C b ρ st).bind fun y st => (bOf st y).bind fun j st => .ok (.bl j) st).bind fun x st => bOf st x) (kB Q) := by
    unfold evT at p; rw [ev] at p; exact p
  refine ⟨m, ρ, st, s, r, ?_⟩
  unfold evT
  cases h1 : ev C a ρ st with
  | ok x st1 =>
    rw [h1] at p
    cases x with
    | bl k =>
      intro H1 m1 e1 s1
      cases k with
      | false =>
        refine iteF ⟨m1, ρ, st1, s1, r.up s e1, ?_⟩
        have p1 := Pg.up e1 p
        change Pg W E m1 H1 (((ev C b ρ st1).bind fun y st => (bOf st y).bind fun j st => .ok (.bl j) st).bind fun x st => bOf st x) (kB Q) at p1
        show Pg W E m1 H1 ((ev C b ρ st1).bind fun x st => bOf st x) (kB Q)
        cases h2 : ev C b ρ st1 with
        | ok y st2 =>
          rw [h2] at p1
          cases y with
          | bl j => exact p1
          | _ => exact p1.elim
        | exc x st2 => rw [h2] at p1; exact p1
        | stuck => rw [h2] at p1; exact p1
      | true => exact iteT (p H1 m1 e1 s1)
    | _ => exact p.elim
  | exc x st1 => rw [h1] at p; exact p
  | stuck => rw [h1] at p; exact p
theorem not_T {a : IE} {σ : L2.St} {H : Hp} {Q : Bool → Hp → Prop} (h : tT W E (evT C (.not a)) σ H Q) : tNot (tT W E (evT C a)) σ H Q := by
  obtain ⟨m, ρ, st, s, r, p⟩ := h
  have p : Pg W E m H (((ev C a ρ st).bind fun x st => (bOf st x).bind fun k st => .ok (.bl (!k)) st).bind fun x st => bOf st x) (kB Q) := by
    unfold evT at p; rw [ev] at p; exact p
  refine ⟨m, ρ, st, s, r, ?_⟩
  unfold evT
  cases h1 : ev C a ρ st with
  | ok x st1 =>
    rw [h1] at p
    cases x with
    | bl k => exact p
    | _ => exact p.elim
  | exc x st1 => rw [h1] at p; exact p
  | stuck => rw [h1] at p; exact p
/-- as values -/
theorem and_V {a b : IE} {σ : L2.St} {H : Hp} {Q : VK} (h : tE W E (ev C (.and a b)) σ H Q) : tAndV (tE W E (ev C a)) (tE W E (ev C b)) σ H Q := by
  obtain ⟨m, ρ, st, s, r, p⟩ := h
  rw [ev] at p
  refine ⟨m, ρ, st, s, r, p.bind.imp fun d m1 st1 H1 e1 s1 p1 v rv => ?_⟩
  obtain ⟨c, rfl, q1⟩ := p1.bOf
  rw [Rp] at rv; subst rv
  refine ⟨c, rfl, ?_⟩
  cases c with
  | true =>
    refine iteT ⟨m1, ρ, st1, s1, r.up s e1, ?_⟩
    rw [if_pos rfl] at q1
    refine q1.bind.imp fun d m2 st2 H2 e2 s2 p2 v rv => ?_
    obtain ⟨j, rfl, q2⟩ := p2.bOf
    exact kD_now q2 s2 rv
  | false =>
    rw [if_neg Bool.false_ne_true] at q1
    exact iteF (kD_now q1 s1 (by rw [Rp]))
theorem or_V {a b : IE} {σ : L2.St} {H : Hp} {Q : VK} (h : tE W E (ev C (.or a b)) σ H Q) : tOrV (tE W E (ev C a)) (tE W E (ev C b)) σ H Q := by
  obtain ⟨m, ρ, st, s, r, p⟩ := h
  rw [ev] at p
  refine ⟨m, ρ, st, s, r, p.bind.imp fun d m1 st1 H1 e1 s1 p1 v rv => ?_⟩
  obtain ⟨c, rfl, q1⟩ := p1.bOf
  rw [Rp] at rv; subst rv
  refine ⟨c, rfl, ?_⟩
  cases c with
  | false =>
    refine iteF ⟨m1, ρ, st1, s1, r.up s e1, ?_⟩
    rw [if_neg Bool.false_ne_true] at q1
    refine q1.bind.imp fun d m2 st2 H2 e2 s2 p2 v rv => ?_
    obtain ⟨j, rfl, q2⟩ := p2.bOf
    exact kD_now q2 s2 rv
  | true =>
    rw [if_pos rfl] at q1
    exact iteT (kD_now q1 s1 (by rw [Rp]))
theorem not_V {a : IE} {σ : L2.St} {H : Hp} {Q : VK} (h : tE W E (ev C (.not a)) σ H Q) : tNotV (tE W E (ev C a)) σ H Q := by
  obtain ⟨m, ρ, st, s, r, p⟩ := h
  rw [ev] at p
  refine ⟨m, ρ, st, s, r, p.bind.imp fun d m1 st1 H1 e1 s1 p1 v rv => ?_⟩
  obtain ⟨c, rfl, q1⟩ := p1.bOf
  rw [Rp] at rv; subst rv
  exact ⟨c, rfl, kD_now q1 s1 (by rw [Rp])⟩
theorem ite_V {c a b : IE} {σ : L2.St} {H : Hp} {Q : VK} (h : tE W E (ev C (.ite c a b)) σ H Q) : tIf (tT W E (evT C c)) (tE W E (ev C a)) (tE W E (ev C b)) σ H Q := by
  obtain ⟨m, ρ, st, s, r, p⟩ := h
  have p : Pg W E m H ((evT C c ρ st).bind fun k st => if k = true then ev C a ρ st else ev C b ρ st) (kD W Q) := by
    rw [ev] at p
    unfold evT
    cases h1 : ev C c ρ st with
    | ok x st1 => rw [h1] at p; exact p
    | exc x st1 => rw [h1] at p; exact p
    | stuck => rw [h1] at p; exact p
  refine ⟨m, ρ, st, s, r, p.bind.imp fun k m1 st1 H1 e1 s1 p1 => ?_⟩
  cases k with
  | true => exact iteT ⟨m1, ρ, st1, s1, r.up s e1, p1⟩
  | false => exact iteF ⟨m1, ρ, st1, s1, r.up s e1, p1⟩
theorem ite_T {c a b : IE} {σ : L2.St} {H : Hp} {Q : Bool → Hp → Prop} (h : tT W E (evT C (.ite c a b)) σ H Q) : tT W E (evT C c) σ H fun k H1 => if k = true then tT W E (evT C a) σ H1 Q else tT W E (evT C b) σ H1 Q := by
  obtain ⟨m, ρ, st, s, r, p⟩ := h
  have p : Pg W E m H ((evT C c ρ st).bind fun k st => if k = true then evT C a ρ st else evT C b ρ st) (kB Q) := by
    unfold evT at p ⊢
    rw [ev] at p
    cases h1 : ev C c ρ st with
    | ok x st1 =>
      rw [h1] at p
      cases x with
      | bl k => cases k <;> exact p
      | _ => exact p.elim
    | exc x st1 => rw [h1] at p; exact p
    | stuck => rw [h1] at p; exact p
  refine ⟨m, ρ, st, s, r, p.bind.imp fun k m1 st1 H1 e1 s1 p1 => ?_⟩
  cases k with
  | true => exact iteT ⟨m1, ρ, st1, s1, r.up s e1, p1⟩
  | false => exact iteF ⟨m1, ρ, st1, s1, r.up s e1, p1⟩
end
end Z
namespace Z
open PySem L2
section
variable {W : Wd} {cc : CC} {Ns : List Str} {scp : Scope} {k : Nat} {E : XK} {X : Cx} {C : Cl}
/-! ### argument lists, calls -/
theorem evs_cons {e : IE} {r : IEs} {σ : L2.St} {H : Hp} {Q : List V → Hp → Prop} (h : tA W E (evs C (.cons e r)) σ H Q) : tCons (tE W E (ev C e)) (tA W E (evs C r)) σ H Q := by
  obtain ⟨m, ρ, st, s, rr, p⟩ := h
  rw [evs] at p
  refine ⟨m, ρ, st, s, rr, p.bind.imp fun d m1 st1 H1 e1 s1 p1 v rv => ?_⟩
  refine ⟨m1, ρ, st1, s1, rr.up s e1, p1.bind.imp fun ds m2 st2 H2 e2 s2 p2 vs rvs => ?_⟩
  exact p2.now s2 _ (by rw [Rps]; exact ⟨v, vs, rfl, rv.up s1 e2, rvs⟩)
theorem evs_nil {σ : L2.St} {H : Hp} {Q : List V → Hp → Prop} (h : tA W E (evs C .nil) σ H Q) : tNil σ H Q := by
  obtain ⟨m, ρ, st, s, rr, p⟩ := h
  rw [evs] at p
  exact p.now s [] (by rw [Rps])
/-- behind the arguments -/
theorem tA_then {es : IEs} {h : List D → Sto → R D} {σ : L2.St} {H : Hp} {Q : VK} {q : List V → Hp → Prop} (w : tE W E (fun ρ st => (evs C es ρ st).bind h) σ H Q)
    (qq : ∀ m st H ds vs, Sim W H m st → Rps W.K H m ds vs → Pg W E m H (h ds st) (kD W Q) → q vs H) : tA W E (evs C es) σ H q := by
  obtain ⟨m, ρ, st, s, rr, p⟩ := w
  exact ⟨m, ρ, st, s, rr, p.bind.imp fun ds m1 st1 H1 e1 s1 p1 vs rvs => qq m1 st1 H1 ds vs s1 rvs p1⟩
theorem PA.of_nil {es : List Expr} (h : es = []) : PA X es (tA W E (evs C .nil)) := by
  subst h
  exact PA.weak pa_nil fun _ _ _ w => evs_nil w
theorem FnOk.at (hX : XOk W cc Ns scp k E X) {f : Addr} {fd : FuncData} {ps : List Str} {sp : Sp} {j : Nat} (F : FnOk W.P W.w W.K W.mg W.base (L2.CX W.P W.w) j f fd ps sp) : FnOk X.prog X.w X.K X.mg X.base (L2.CX X.prog X.w) j f fd ps sp := by
  rw [hX.prog, hX.w, hX.K, hX.mg, hX.base]; exact F
theorem tup_E {es : IEs} {σ : L2.St} {H : Hp} {Q : VK} (h : tE W E (ev C (.tup es)) σ H Q) : tTup (tA W E (evs C es)) σ H Q := by
  have h' : tE W E (fun ρ st => (evs C es ρ st).bind fun ds st => if ds.length ≤ LIM then .ok (.tup ds) st else .stuck) σ H Q := by
    obtain ⟨m, ρ, st, s, rr, p⟩ := h; rw [ev] at p; exact ⟨m, ρ, st, s, rr, p⟩
  refine tA_then h' fun m st H ds vs s r p => ?_
  obtain ⟨c, p⟩ := p.ite
  exact ⟨by rw [r.len]; exact lim_le c, fun a ha => new_tup s ha r p⟩
theorem lst_E {es : IEs} {σ : L2.St} {H : Hp} {Q : VK} (h : tE W E (ev C (.lst es)) σ H Q) : tLst (tA W E (evs C es)) σ H Q := by
  have h' : tE W E (fun ρ st => (evs C es ρ st).bind fun ds st => if ds.length ≤ LIM then .ok (.loc st.length) (st ++ [.lst ds]) else .stuck) σ H Q := by
    obtain ⟨m, ρ, st, s, rr, p⟩ := h; rw [ev] at p; exact ⟨m, ρ, st, s, rr, p⟩
  refine tA_then h' fun m st H ds vs s r p => ?_
  obtain ⟨c, p⟩ := p.ite
  exact ⟨by rw [r.len]; exact lim_le c, fun a ha => new_lst s ha r p⟩
theorem call_E (hW : WOk W cc) {f : Nat} {fi : FnIR} (hf : W.pr.fns[f]? = some fi) {es : IEs} {σ : L2.St} {H : Hp} {Q : VK} (h : tE W E (ev (W.cl k) (.call f es)) σ H Q) :
    tCall (spE W (W.pr.call W.F k) f) [] E (tA W E (evs (W.cl k) es)) σ H Q := by
  have h' : tE W E (fun ρ st => (evs (W.cl k) es ρ st).bind fun ds st => (W.cl k).call f ds st) σ H Q := by
    obtain ⟨m, ρ, st, s, rr, p⟩ := h; rw [ev] at p; exact ⟨m, ρ, st, s, rr, p⟩
  refine tA_then h' fun m st H ds vs s r p => ?_
  rw [List.append_nil]
  exact ⟨m, st, ds, s, r, by rw [r.len, (hW.bi f fi hf).2]; exact call_np p hf, p⟩
theorem pe_callE (hX : XOk W cc Ns scp k E X) (hW : WOk W cc) (L : Lv W k) {x : Str} {f : Nat} {es : IEs} {xs : List Expr} {p pos : Pos}
    (hf : cc.fns.lookup x = some f) (hg : glB scp x = true) (hn : noStars xs = true) (ha : PA X xs (tA W E (evs (W.cl k) es))) (hnil : xs = [] → es = .nil) : PE X (.Call (.Name x p) xs [] pos) (tE W E (ev (W.cl k) (.call f es))) := by
  obtain ⟨h1, h2, fi, h3⟩ := hW.fn x f hf
  obtain ⟨g1, g2⟩ := gl_of hg hX.sc
  have b := (hW.bi f fi h3).1
  have F := FnOk.at hX ((L f fi h3).mono (Nat.le_succ _))
  cases xs with
  | nil =>
    cases hnil rfl
    refine PE.weak (pe_call0 F hX.room g1 (by rw [hX.mg]; exact h1) (by rw [hX.K]; exact h2) (by rw [hX.K]; exact b) .nil hX.pass g2) fun σ H Q w => ?_
    have q := call_E hW h3 w
    exact evs_nil (C := W.cl k) (W := W) (E := E) q
  | cons e xs =>
    rw [noStars, Bool.and_eq_true] at hn
    exact PE.weak (pe_call F hX.room g1 (by rw [hX.mg]; exact h1) (by rw [hX.K]; exact h2) (by rw [hX.K]; exact b) .nil hX.pass ha g2 (star_cons (by simpa using hn.1)) (star_plain hn.2)) fun σ H Q w => call_E hW h3 w
/-- a new instance -/
theorem mk_E (hW : WOk W cc) {c f : Nat} {fi : FnIR} (hc : c < W.ncl) (hf : W.pr.ini c = some f) (hfi : W.pr.fns[f]? = some fi) {es : IEs} {σ : L2.St} {H : Hp} {Q : VK} (h : tE W E (ev (W.cl k) (.mk c es)) σ H Q) :
    tMake (W.ca c) (spE W (W.pr.call W.F k) f) [] E (tA W E (evs (W.cl k) es)) σ H Q := by
  have h' : tE W E (fun ρ st => (evs (W.cl k) es ρ st).bind fun ds st => ((W.cl k).call f (.loc st.length :: ds) (st ++ [.ins c []])).bind fun r st' => if r = .non then .ok (.loc st.length) st' else .stuck) σ H Q := by
    obtain ⟨m, ρ, st, s, rr, p⟩ := h
    rw [ev] at p
    have e : (W.cl k).ini c = some f := hf
    rw [e] at p
    exact ⟨m, ρ, st, s, rr, p⟩
  refine tA_then h' fun m st H ds vs s r p x dx hx hdx ne => ?_
  rw [List.append_nil]
  obtain ⟨s1, e1⟩ := s.laid hdx (.own x)
  have hx' : upd H dx (.own x) x = none := by rw [upd_ne (Ne.symm ne)]; exact hx
  obtain ⟨s2, e2⟩ := s1.push hx' (c := .ins c []) (o := .ins (W.ca c) dx []) ⟨dx, [], hc, upd_same, rfl, by simp [Rps]⟩
  have e := e1.trans e2
  have loc0 : (m ++ [x])[st.length]? = some x := by rw [List.getElem?_append_right (by rw [s.len]; exact Nat.le_refl _), s.len]; simp
  have rl : Rp W.K (upd (upd H dx (.own x)) x (.ins (W.ca c) dx [])) (m ++ [x]) (.loc st.length) (.ref x) := by rw [Rp]; exact ⟨x, loc0, rfl⟩
  have p1 := (Pg.up e p).bind
  refine ⟨m ++ [x], _, .loc st.length :: ds, s2, by rw [Rps]; exact ⟨_, _, rfl, rl, r.up s e⟩, ?_, p1.imp fun d m3 st3 H3 e3 s3 p3 v rv => ?_⟩
  · have := call_np p1 hfi
    rw [(hW.bi f fi hfi).2, ← this, List.length_cons, List.length_cons, r.len]
  · obtain ⟨c, p3⟩ := p3.ite
    subst c
    rw [Rp] at rv; subst rv
    exact ⟨rfl, kD_now p3 s3 (rl.up s2 e3)⟩
theorem pe_mkE (hX : XOk W cc Ns scp k E X) (hW : WOk W cc) (L : Lv W k) {x : Str} {c : Nat} {es : IEs} {xs : List Expr} {p pos : Pos}
    (hf : cc.cls.lookup x = some c) (hg : glB scp x = true) (hn : noStars xs = true) (ha : PA X xs (tA W E (evs (W.cl k) es))) (hnil : xs = [] → es = .nil) : PE X (.Call (.Name x p) xs [] pos) (tE W E (ev (W.cl k) (.mk c es))) := by
  obtain ⟨h1, hc, f, h2⟩ := hW.cl x c hf
  obtain ⟨M, fi, h3⟩ := hW.mkk c f h2
  obtain ⟨g1, g2⟩ := gl_of hg hX.sc
  have b := (hW.bi f fi h3).1
  have F := FnOk.at hX (L f fi h3)
  have hr : Room (4 * k + 2) X.A := hX.room
  have M' : Mk X.K (W.ca c) (W.fa f) := by rw [hX.K]; exact M
  cases xs with
  | nil =>
      cases hnil rfl
      refine PE.weak (pe_make0 M' F hr g1 (by rw [hX.mg]; exact h1) (by rw [hX.K]; exact b) .nil hX.pass g2) fun σ H Q w => ?_
      have q := mk_E hW hc h2 h3 w
      exact evs_nil (C := W.cl k) (W := W) (E := E) q
  | cons e xs =>
      rw [noStars, Bool.and_eq_true] at hn
      exact PE.weak (pe_make M' F hr g1 (by rw [hX.mg]; exact h1) (by rw [hX.K]; exact b) .nil hX.pass ha g2 (star_cons (by simpa using hn.1)) (star_plain hn.2)) fun σ H Q w => mk_E hW hc h2 h3 w
end
end Z
namespace Z
open PySem L2
section
variable {W : Wd} {cc : CC} {Ns : List Str} {scp : Scope} {k : Nat} {E : XK} {X : Cx}
/-! ### own methods -/
/-- o.m(..) by the instance's class -/
def tMethD (X : Cx) (k : Nat) (m : Str) (E : XK) (ta : TE) (t : TA) : TE := fun σ H Q => ta σ H fun x H1 => ∃ a C dx fs f fd ps sp, x = .ref a ∧ H1 a = some (.ins C dx fs) ∧ Cls X.K C ∧ Meth X.K C m f ∧
  FnOk X.prog X.w X.K X.mg X.base (L2.CX X.prog X.w) k f fd ps sp ∧ Binds X.K fd ps [] ∧ fs.lookup m = none ∧ t σ H1 fun vs H2 => sp (x :: vs) H2 Q E
theorem pe_methD {j : Nat} {m : Str} {o : Expr} {es : List Expr} {ta : TE} {t : TA} {apos pos : Pos} {pl : Sem Bool} (he : PE X o ta) (hr : Room j X.A) (hx : Passes (L2.CX X.prog X.w) X E) (ha : PA X es t) (hnil : es = [] → ∀ σ H Q, t σ H Q → Q [] H) (hs : noStars es = true)
    (ht : eval (.Call (.Attribute o m apos) es [] pos) X.env = (do
      let ov ← eval o X.env
      standAt apos.atName
      let (f, first) ← holding [ov] (getMethod ov m pl)
      callWith pos f first (backTo pos (starEach es X.env)) (backToKw pos (keywordEach [] X.env)))) :
    PE X (.Call (.Attribute o m apos) es [] pos) (tMethD X j m E ta t) := by
  refine ⟨fun pins s σ H Q I h => ?_⟩
  refine PySem.W.methodCall_KW (pl := pl) (thn (he.run pins s σ H _ I h) fun u s1 ⟨x, H1, I1, rx, a, C, dx, fs, f, fd, ps, sp, ex, ea, c, hm, F, b, l, q⟩ => ?_) ht
  subst ex
  obtain rfl : u = Value.ref a := rx
  refine getmeth_ok I1 ea c hm l ?_
  cases es with
  | nil =>
    refine PySem.W.callWith_K0 (first := [.ref a]) I1.kIn hm.kp ?_
    exact run_fn (us := [.ref a]) (vs := [.ref a]) (ds := []) (dvs := []) F hr b .nil hx I1 (.cons rfl .nil) (hnil rfl σ H1 _ q)
  | cons e es =>
    rw [noStars, Bool.and_eq_true] at hs
    refine PySem.W.callWith_K (first := [.ref a]) (h₀ := X.base) I.ok.mod.kin hm.kp (thn (ha.run pos pins s1 σ H1 _ I1 q) fun us s2 ⟨vs, H2, I2, r, q2⟩ => ⟨I2.kIn, ?_⟩) (star_cons (by simpa using hs.1)) (star_plain hs.2)
    exact run_fn (us := .ref a :: us) (vs := .ref a :: vs) (ds := []) (dvs := []) F hr b .nil hx I2 (.cons rfl r) (by rw [List.append_nil]; exact q2)
theorem om_E (hX : XOk W cc Ns scp k E X) (hW : WOk W cc) (L : Lv W k) {x : Str} {mi : Nat} {a : IE} {es : IEs} (hm : cc.mns.lookup x = some mi) {σ : L2.St} {H : Hp} {Q : VK} (h : tE W E (ev (W.cl k) (.om x mi a es)) σ H Q) :
    tMethD X (4 * k + 2) x E (tE W E (ev (W.cl k) a)) (tA W E (evs (W.cl k) es)) σ H Q := by
  obtain ⟨m, ρ, st, s, r, p⟩ := h
  rw [ev] at p
  refine ⟨m, ρ, st, s, r, p.bind.imp fun d m1 st1 H1 e1 s1 p1 v rv => ?_⟩
  cases d with
  | loc n =>
    simp only at p1
    split at p1
    · rename_i c fs hc
      split at p1
      · rename_i f hf hno
        obtain ⟨ad, had, dx, gs, hcl, h1, h2⟩ := s1.at hc
        have rv' := rv
        rw [Rp] at rv'
        obtain ⟨a', ha', rfl⟩ := rv'
        rw [had] at ha'; cases ha'
        obtain ⟨M, fi, hfi⟩ := hW.mt x mi c f hm hcl hf
        have F := FnOk.at hX ((L f fi hfi).mono (Nat.le_succ _))
        refine ⟨ad, W.ca c, dx, gs, W.fa f, W.fd f, W.ps f, _, rfl, h1, by rw [hX.K]; exact hW.cls c hcl, by rw [hX.K]; exact M, F, by rw [hX.K]; exact (hW.bi f fi hfi).1, h2.lookup_none hno, ?_⟩
        refine ⟨m1, ρ, st1, s1, r.up s e1, p1.bind.imp fun ds m2 st2 H2 e2 s2 p2 vs rvs => ?_⟩
        refine ⟨m2, st2, .loc n :: ds, s2, by rw [Rps]; exact ⟨_, _, rfl, rv.up s1 e2, rvs⟩, ?_, p2⟩
        have := call_np p2 hfi
        rw [(hW.bi f fi hfi).2, ← this, List.length_cons, List.length_cons, rvs.len]
      · exact p1.elim
    · exact p1.elim
  | _ => exact p1.elim
theorem pe_omE (hX : XOk W cc Ns scp k E X) (hW : WOk W cc) (L : Lv W k) {x : Str} {mi : Nat} {a : IE} {es : IEs} {o : Expr} {xs : List Expr} {apos pos : Pos} (hm : cc.mns.lookup x = some mi) (hb : baseOk o = true) (hl : (apos.endLine == pos.line) = true) (hn : xs.length < 20)
    (he : PE X o (tE W E (ev (W.cl k) a))) (hs : noStars xs = true) (ha : PA X xs (tA W E (evs (W.cl k) es))) (hnil : xs = [] → es = .nil) : PE X (.Call (.Attribute o x apos) xs [] pos) (tE W E (ev (W.cl k) (.om x mi a es))) := by
  refine PE.weak (pe_methD he hX.room hX.pass ha (fun e σ H Q w => ?_) hs (meth_form hb hl hs hn)) fun σ H Q w => om_E hX hW L hm w
  cases hnil e
  exact evs_nil w

/-! ### one operand, two operands -/
theorem fld_E (hW : WOk W cc) {a : IE} {f : Str} (hf : f ∈ cc.flds) {σ : L2.St} {H : Hp} {Q : VK} (h : tE W E (ev (W.cl k) (.fld a f)) σ H Q) : tFld W.K (tE W E (ev (W.cl k) a)) f σ H Q := by
  have h' : tE W E (fun ρ st => (ev (W.cl k) a ρ st).bind fun x st => fldD x f st) σ H Q := by
    obtain ⟨m, ρ, st, s, rr, p⟩ := h; rw [ev] at p; exact ⟨m, ρ, st, s, rr, p⟩
  refine h'.one fun m st H d v s r p => ?_
  unfold fldD at p
  split at p
  · split at p
    · rename_i n c fs hc
      obtain ⟨ad, had, dx, gs, hcl, h1, h2⟩ := s.at hc
      rw [Rp] at r
      obtain ⟨a', ha', rfl⟩ := r
      rw [had] at ha'; cases ha'
      have p' : ∃ y, fs.lookup f = some y ∧ Pg W E m H (.ok y st) (kD W Q) := by
        cases q : fs.lookup f with
        | some y => rw [q] at p; exact ⟨y, rfl, p⟩
        | none => rw [q] at p; exact p.elim
      obtain ⟨y, hy, p⟩ := p'
      obtain ⟨z, hz, rz⟩ := h2.lookup hy
      exact ⟨ad, _, dx, gs, z, rfl, h1, hW.cls c hcl, hW.nf c f hcl hf, hz, kD_now p s rz⟩
    · exact p.elim
  · exact p.elim
theorem bl_of {x : Str} (hX : XOk W cc Ns scp k E X) (hW : WOk W cc) (h : blB cc scp x = true) : Gl X x ∧ X.mg x = none ∧ x ≠ "__name__" ∧ (x == ("__debug__" : Str)) = false := by
  unfold blB at h
  rw [Bool.and_eq_true, Bool.and_eq_true, decide_eq_true_eq, decide_eq_true_eq] at h
  obtain ⟨g1, g2⟩ := gl_of h.1.1 hX.sc
  exact ⟨g1, by rw [hX.mg]; exact hW.bl x h.1.2, h.2, g2⟩
theorem boot_kd (kd : Kd) : bootBuiltins (Str.ofString (kdName kd)) = some (.type (kdName kd)) := by cases kd <;> decide +kernel
theorem boot_bi (b : Bi) : bootBuiltins (biName b) = some (biVal b) := by cases b <;> decide +kernel
theorem isi_E {a : IE} {kd : Kd} {σ : L2.St} {H : Hp} {Q : VK} (h : tE W E (ev (W.cl k) (.isi a kd)) σ H Q) : tCB (rIsi W.K) (tCons (tE W E (ev (W.cl k) a)) (tCons (tC (.ty (kdName kd))) tNil)) σ H Q := by
  have h' : tE W E (fun ρ st => (ev (W.cl k) a ρ st).bind fun x st => isiD x kd st) σ H Q := by
    obtain ⟨m, ρ, st, s, rr, p⟩ := h; rw [ev] at p; exact ⟨m, ρ, st, s, rr, p⟩
  exact h'.one fun m st H d v s r p => isi_ok s r p
theorem pe_isiE (hX : XOk W cc Ns scp k E X) (hW : WOk W cc) {a : IE} {kd : Kd} {x : Expr} {nm t : Str} {p p2 pos : Pos} (hn : nm = "isinstance") (ht : t = Str.ofString (kdName kd)) (h1 : blB cc scp nm = true) (h2 : blB cc scp t = true) (hs : isStar x = false)
    (he : PE X x (tE W E (ev (W.cl k) a))) : PE X (.Call (.Name nm p) [x, .Name t p2] [] pos) (tE W E (ev (W.cl k) (.isi a kd))) := by
  obtain ⟨g1, g2, g3, g4⟩ := bl_of hX hW h1
  obtain ⟨k1, k2, k3, k4⟩ := bl_of hX hW h2
  subst hn ht
  have c := call_isi (X := X)
  rw [hX.K] at c
  exact PE.weak (pe_callB c g1 g2 (by decide +kernel) (pa_cons he (pa_cons (pe_bltn k1 k2 (boot_kd kd) (v := .ty (kdName kd)) rfl k3 k4) pa_nil) (star_cons hs)) g3 g4 (star_cons hs) rfl) fun σ H Q w => isi_E w
theorem bi_E {a : IE} {b : Bi} {σ : L2.St} {H : Hp} {Q : VK} (h : tE W E (ev (W.cl k) (.bi b a)) σ H Q) : tCB (rBi W b) (tCons (tE W E (ev (W.cl k) a)) tNil) σ H Q := by
  have h' : tE W E (fun ρ st => (ev (W.cl k) a ρ st).bind fun x st => biD b x st) σ H Q := by
    obtain ⟨m, ρ, st, s, rr, p⟩ := h; rw [ev] at p; exact ⟨m, ρ, st, s, rr, p⟩
  exact h'.one fun m st H d v s r p => bi_ok s r p
theorem pe_biE (hX : XOk W cc Ns scp k E X) (hW : WOk W cc) {a : IE} {b : Bi} {x : Expr} {nm : Str} {p pos : Pos} (hn : nm = biName b) (h1 : blB cc scp nm = true) (hs : isStar x = false) (he : PE X x (tE W E (ev (W.cl k) a))) :
    PE X (.Call (.Name nm p) [x] [] pos) (tE W E (ev (W.cl k) (.bi b a))) := by
  obtain ⟨g1, g2, g3, g4⟩ := bl_of hX hW h1
  subst hn
  have c := call_rBi (X := X) (W := W) b hX.K hX.calm
  have hv := boot_bi b
  refine PE.weak (t := tCB (rBi W b) (tCons (tE W E (ev (W.cl k) a)) tNil)) ?_ fun σ H Q w => bi_E w
  cases b
  · exact pe_callB c g1 g2 hv (pa_cons he pa_nil (star_cons hs)) g3 g4 (star_cons hs) rfl
  · exact pe_callTy c g1 g2 hv (pa_cons he pa_nil (star_cons hs)) g3 g4 (star_cons hs) rfl
  · exact pe_callTy c g1 g2 hv (pa_cons he pa_nil (star_cons hs)) g3 g4 (star_cons hs) rfl
  · exact pe_callTy c g1 g2 hv (pa_cons he pa_nil (star_cons hs)) g3 g4 (star_cons hs) rfl
  · exact pe_callTy c g1 g2 hv (pa_cons he pa_nil (star_cons hs)) g3 g4 (star_cons hs) rfl
  · exact pe_callB c g1 g2 hv (pa_cons he pa_nil (star_cons hs)) g3 g4 (star_cons hs) rfl
theorem me0_E {a : IE} {me : Me} {σ : L2.St} {H : Hp} {Q : VK} (h : tE W E (ev (W.cl k) (.me0 me a)) σ H Q) : tBM0 W.K (meTy me) (rMe0 W me) (tE W E (ev (W.cl k) a)) σ H Q := by
  have h' : tE W E (fun ρ st => (ev (W.cl k) a ρ st).bind fun x st => if recvOk me st x = true then me0D me x st else .stuck) σ H Q := by
    obtain ⟨m, ρ, st, s, rr, p⟩ := h; rw [ev] at p; exact ⟨m, ρ, st, s, rr, p⟩
  refine h'.one fun m st H d v s r p => ?_
  obtain ⟨c, p⟩ := p.ite
  exact ⟨recv_ok s r c, me0_ok s r p⟩
theorem me1_E {a b : IE} {me : Me} {σ : L2.St} {H : Hp} {Q : VK} (h : tE W E (ev (W.cl k) (.me1 me a b)) σ H Q) : tBM W.K (meTy me) (rMe1 W me) (tE W E (ev (W.cl k) a)) (tCons (tE W E (ev (W.cl k) b)) tNil) σ H Q := by
  obtain ⟨m, ρ, st, s, r, p⟩ := h
  rw [ev] at p
  refine ⟨m, ρ, st, s, r, p.bind.imp fun d m1 st1 H1 e1 s1 p1 v rv => ?_⟩
  obtain ⟨c, p1⟩ := p1.ite
  exact ⟨recv_ok s1 rv c, m1, ρ, st1, s1, r.up s e1, p1.bind.imp fun e m2 st2 H2 e2 s2 p2 u ru => me1_ok s2 (rv.up s1 e2) ru p2⟩
theorem pe_me0E (hX : XOk W cc Ns scp k E X) {a : IE} {me : Me} {x : Expr} {nm : Str} {ap pos : Pos} (hn : nm = meName me) (hb : baseOk x = true) (hl : (ap.endLine == pos.line) = true) (hme : me = .pop ∨ me = .clear) (he : PE X x (tE W E (ev (W.cl k) a))) :
    PE X (.Call (.Attribute x nm ap) [] [] pos) (tE W E (ev (W.cl k) (.me0 me a))) := by
  subst hn
  refine PE.weak (t := tBM0 X.K (meTy me) (rMe0 W me) (tE W E (ev (W.cl k) a))) ?_ fun σ H Q w => by rw [hX.K]; exact me0_E w
  have mt := me0_mt (W := W) (X := X) me hme
  rcases hme with rfl | rfl
  · exact pe_bm0 PySem.F.plainAttrs_list PySem.F.slot_list_pop PySem.F.type_list_pop mt he (base_of hb) hl
  · exact pe_bm0 PySem.F.plainAttrs_list PySem.F.slot_list_clear PySem.F.type_list_clear mt he (base_of hb) hl
theorem pe_me1E (hX : XOk W cc Ns scp k E X) {a b : IE} {me : Me} {x y : Expr} {nm : Str} {ap pos : Pos} (hn : nm = meName me) (hb : baseOk x = true) (hl : (ap.endLine == pos.line) = true) (hme : me ≠ .clear) (hs : isStar y = false) (he : PE X x (tE W E (ev (W.cl k) a))) (hf : PE X y (tE W E (ev (W.cl k) b))) :
    PE X (.Call (.Attribute x nm ap) [y] [] pos) (tE W E (ev (W.cl k) (.me1 me a b))) := by
  subst hn
  refine PE.weak (t := tBM X.K (meTy me) (rMe1 W me) (tE W E (ev (W.cl k) a)) (tCons (tE W E (ev (W.cl k) b)) tNil)) ?_ fun σ H Q w => by rw [hX.K]; exact me1_E w
  have mt := me1_mt (W := W) (X := X) me hX.K (by have := hX.room.un; omega) hme
  have few : fewForm 0 [y] X.env pos := few_of (by rw [noStars, hs]; rfl) (by simp)
  cases me
  · exact pe_bm PySem.F.plainAttrs_list PySem.F.slot_list_append PySem.F.type_list_append mt he (pa_cons hf pa_nil (star_cons hs)) (base_of hb) few hl (star_cons hs) rfl
  · exact pe_bm PySem.F.plainAttrs_list PySem.F.slot_list_pop PySem.F.type_list_pop mt he (pa_cons hf pa_nil (star_cons hs)) (base_of hb) few hl (star_cons hs) rfl
  · exact pe_bm PySem.F.plainAttrs_list PySem.F.slot_list_extend PySem.F.type_list_extend mt he (pa_cons hf pa_nil (star_cons hs)) (base_of hb) few hl (star_cons hs) rfl
  · exact pe_bm PySem.F.plainAttrs_str PySem.F.slot_str_join PySem.F.type_str_join mt he (pa_cons hf pa_nil (star_cons hs)) (base_of hb) few hl (star_cons hs) rfl
  · exact absurd rfl hme
  · exact pe_bm PySem.F.plainAttrs_list PySem.F.slot_list_index PySem.F.type_list_index mt he (pa_cons hf pa_nil (star_cons hs)) (base_of hb) few hl (star_cons hs) rfl
  · exact pe_bm PySem.F.plainAttrs_str PySem.F.slot_str_split PySem.F.type_str_split mt he (pa_cons hf pa_nil (star_cons hs)) (base_of hb) few hl (star_cons hs) rfl
end
end Z
namespace Z
open PySem L2
section
variable {W : Wd} {cc : CC} {Ns : List Str} {scp : Scope} {k : Nat} {E : XK} {X : Cx} {C : Cl}
/-! ### targets -/
def gNames : List Nat → TGs
  | [] => gNil
  | i :: is => gCons (gName i) (gNames is)
def gIT (K : PySem.W.Frag) : IT → TG
  | .name i => gName i
  | .tup is => gTup K is.length (gNames is)
structure TOk (Ns : List Str) (scp : Scope) (fnS : Str → Bool) (X : Cx) : Prop where
  N : X.N = Ns
  nd : Ns.Nodup
  sc : X.env.scope = scp
  fn : X.fn = fnS
  calm : X.calm = true
theorem pg_nameE {fnS : Str → Bool} (hX : TOk Ns scp fnS X) {i : Nat} {e : Expr} (h : tgB Ns scp fnS i e = true) : PG X e (gName i) ∧ ∃ x p, e = .Name x p := by
  cases e with
  | Name x p =>
    unfold tgB at h
    rw [Bool.and_eq_true, decide_eq_true_eq] at h
    refine ⟨?_, x, p, rfl⟩
    have h2 := h.2
    split at h2
    · rename_i hl
      exact pg_name (by rw [hX.N]; exact hX.nd) (by rw [hX.N]; exact h.1) (.inl (by rw [hX.sc]; exact hl)) (.inr (by rw [hX.sc]; exact hl))
    · rename_i hl
      exact pg_name (by rw [hX.N]; exact hX.nd) (by rw [hX.N]; exact h.1) (.inr (by rw [hX.sc]; exact hl)) (.inl (by rw [hX.fn]; exact h2))
    · cases h2
  | _ => cases h
theorem pg_namesE {fnS : Str → Bool} (hX : TOk Ns scp fnS X) : ∀ {is : List Nat} {es : List Expr}, tgsB Ns scp fnS is es = true → PGs X es (gNames is) ∧ (assignEach es X.env).length = is.length ∧ (assignEach es X.env).findIdx? (·.1) = none
  | [], [], _ => ⟨pgs_nil, rfl, rfl⟩
  | i :: is, e :: es, h => by
    unfold tgsB at h
    rw [Bool.and_eq_true] at h
    obtain ⟨h1, x, p, rfl⟩ := pg_nameE hX h.1
    obtain ⟨h2, h3, h4⟩ := pg_namesE hX h.2
    refine ⟨pgs_cons h1 h2 rfl, ?_, ?_⟩
    · show (assignEach es X.env).length + 1 = is.length + 1
      rw [h3]
    · show List.findIdx? (·.1) ((false, assign (.Name x p) X.env) :: assignEach es X.env) = none
      rw [List.findIdx?_cons, h4]; rfl
  | [], _ :: _, h => by cases h
  | _ :: _, [], h => by cases h
theorem pg_IT {fnS : Str → Bool} (hX : TOk Ns scp fnS X) {t : IT} {e : Expr} (h : chkT Ns scp fnS t e = true) : PG X e (gIT X.K t) := by
  cases t with
  | name i => exact (pg_nameE hX h).1
  | tup is =>
    cases e with
    | Tuple es j pos =>
      obtain ⟨h2, h3, h4⟩ := pg_namesE hX h
      exact pg_tup hX.calm h2 h3 h4
    | _ => cases h
section
variable {m : List Addr} {H : Hp}
theorem names_ok : ∀ {is : List Nat} {ds : List D} {vs : List V} {ρ : Env} {σ : L2.St} {Q : L2.St → Hp → Prop}, Rps W.K H m ds vs → EnvR W H m ρ σ → ds.length = is.length →
    (∀ σ', EnvR W H m ((is.zip ds).foldl (fun ρ p => ρ.set p.1 (some p.2)) ρ) σ' → (∀ vz, (∀ i ∈ is, i ∈ vz) → L2.wipe σ' vz = L2.wipe σ vz) → Q σ' H) → gNames is vs σ H Q
  | [], [], vs, ρ, σ, Q, r, e, _, h => by
    rw [Rps] at r
    exact ⟨r, h σ e fun _ _ => rfl⟩
  | i :: is, d :: ds, vs, ρ, σ, Q, r, e, hl, h => by
    rw [Rps] at r
    obtain ⟨v, vs', rfl, r1, r2⟩ := r
    refine ⟨v, vs', rfl, ?_⟩
    show gNames is vs' (σ.set i (some v)) H Q
    refine names_ok r2 (e.set r1) (by simpa using hl) fun σ' e' hw => h σ' e' fun vz hz => ?_
    rw [hw vz fun j hj => hz j (List.mem_cons_of_mem _ hj)]
    have hi := hz i List.mem_cons_self
    clear hw hz h
    induction vz with
    | nil => simp at hi
    | cons z vz ih =>
      unfold L2.wipe
      by_cases hc : i ∈ vz
      · rw [ih hc]
      · have : i = z := by simpa [hc] using hi
        subst this
        have aux : ∀ (vz : List Nat) (τ : L2.St) (x : Option V), i ∉ vz → L2.wipe (τ.set i x) vz = (L2.wipe τ vz).set i x := by
          intro vz
          induction vz with
          | nil => intro τ x _; rfl
          | cons z vz ih2 =>
            intro τ x hn
            simp only [List.mem_cons, not_or] at hn
            unfold L2.wipe
            rw [ih2 τ x hn.2, List.set_comm _ _ hn.1]
        rw [aux vz σ _ hc, List.set_set]
  | [], _ :: _, _, _, _, _, _, _, hl, _ => by simp at hl
  | _ :: _, [], _, _, _, _, _, _, hl, _ => by simp at hl
/-- a target takes a value -/
theorem gIT_ok {t : IT} {d : D} {v : V} {ρ ρ' : Env} {σ : L2.St} {Q : L2.St → Hp → Prop} (r : Rp W.K H m d v) (e : EnvR W H m ρ σ) (h : asgT ρ t d = some ρ')
    (q : ∀ σ', EnvR W H m ρ' σ' → (∀ vz, (∀ i ∈ t.slots, i ∈ vz) → L2.wipe σ' vz = L2.wipe σ vz) → Q σ' H) : gIT W.K t v σ H Q := by
  cases t with
  | name i =>
    unfold asgT at h
    cases h
    refine q _ (e.set r) fun vz hz => ?_
    have z := names_ok (W := W) (is := [i]) (ds := [d]) (vs := [v]) (Q := fun σ' _ => ∀ vz, (∀ j ∈ [i], j ∈ vz) → L2.wipe σ' vz = L2.wipe σ vz) (Rps.one r) e rfl fun σ' _ hw => hw
    obtain ⟨v', vs', e1, z⟩ := z
    cases e1
    exact z.2 vz hz
  | tup is =>
    cases d with
    | tup ds =>
      unfold asgT at h
      simp only at h
      split at h
      · rename_i hl
        cases h
        obtain ⟨a, vs, rfl, h1, h2⟩ := r.tup_ref
        exact ⟨a, vs, rfl, h1, by rw [h2.len]; exact hl, names_ok h2 e hl q⟩
      · cases h
    | _ => cases h
end
end
end Z
namespace Z
open PySem L2
section
variable {W : Wd} {cc : CC} {Ns : List Str} {scp : Scope} {k : Nat} {E : XK} {X : Cx} {C : Cl}
/-! ### what is walked -/
/-- J walks w, wherever w's list stands as it is -/
def Walks (W : Wd) (J : It) (w : Wk) (m0 : List Addr) (H0 : Hp) : Prop := ∀ H m st, Ext m0 m H0 H → Sim W H m st → w.stays st = true → ∀ i : Nat,
  (∀ d, w.xs[i]? = some d → J.go i H ∧ ∀ x H', J.yld i H x H' → Ext m m H H' ∧ Sim W H' m st ∧ Rp W.K H' m d x) ∧ (w.xs.length ≤ i → J.stop i H)
def tI (W : Wd) (E : XK) (f : Env → Sto → R Wk) : TI := fun σ H Rr => ∃ m ρ st, Sim W H m st ∧ EnvR W H m ρ σ ∧ Pg W E m H (f ρ st) fun w m' _ H' => ∀ J, Walks W J w m' H' → Rr J H'
theorem walks_tup {a : Addr} {vs : List V} {xs : List D} {m : List Addr} {H : Hp} {st : Sto} (s : Sim W H m st) (h1 : SqT W.K H a vs) (h2 : Rps W.K H m xs vs) : Walks W (Itt W.K a) ⟨xs, none⟩ m H := by
  intro H1 m1 st1 e s1 _ i
  have q1 := sqT_up s e h1
  have q2 := h2.up s e
  refine ⟨fun d hd => ?_, fun hi => ⟨vs, q1, by rw [q2.len]; exact hi⟩⟩
  obtain ⟨v, hv, rv⟩ := q2.get hd
  refine ⟨⟨vs, v, q1, hv⟩, fun x H' y => ?_⟩
  have := y.2 vs q1
  rw [hv] at this; cases this
  rw [y.1]
  exact ⟨Ext.refl, s1, rv⟩
theorem walks_fl {a : Addr} {vs : List V} {xs : List D} {m : List Addr} {H : Hp} {st : Sto} (s : Sim W H m st) (h1 : SqF W.K H a vs) (h2 : Rps W.K H m xs vs) : Walks W (Itl W.K a) ⟨xs, none⟩ m H := by
  intro H1 m1 st1 e s1 _ i
  have q1 := (sqF_up s e h1).l
  have q2 := h2.up s e
  refine ⟨fun d hd => ?_, fun hi => ⟨vs, q1, by rw [q2.len]; exact hi⟩⟩
  obtain ⟨v, hv, rv⟩ := q2.get hd
  refine ⟨⟨vs, v, q1, hv⟩, fun x H' y => ?_⟩
  have := y.2 vs q1
  rw [hv] at this; cases this
  rw [y.1]
  exact ⟨Ext.refl, s1, rv⟩
theorem walks_lst {a : Addr} {xs : List D} {n : Nat} {m : List Addr} {H : Hp} (ha : m[n]? = some a) : Walks W (Itl W.K a) ⟨xs, some (n, .lst xs)⟩ m H := by
  intro H1 m1 st1 e s1 hs i
  have hs : decide (st1[n]? = some (.lst xs)) = true := hs
  have hs := of_decide_eq_true hs
  obtain ⟨b, hb, vs, h1, h2⟩ := s1.at hs
  have := e.at ha
  rw [hb] at this; cases this
  refine ⟨fun d hd => ?_, fun hi => ⟨vs, SqL.of h1, by rw [h2.len]; exact hi⟩⟩
  obtain ⟨v, hv, rv⟩ := h2.get hd
  refine ⟨⟨vs, v, SqL.of h1, hv⟩, fun x H' y => ?_⟩
  have := y.2 vs (SqL.of h1)
  rw [hv] at this; cases this
  rw [y.1]
  exact ⟨Ext.refl, s1, rv⟩
theorem rngW_get {lo : Int} {n i : Nat} {d : D} (h : (rngW lo n).xs[i]? = some d) : i < n ∧ d = .int (lo + (i : Int)) := by
  unfold rngW at h
  simp only [List.getElem?_map] at h
  cases q : (List.range n)[i]? with
  | none => rw [q] at h; cases h
  | some j =>
    rw [q] at h
    obtain ⟨h1, h2⟩ := List.getElem?_eq_some_iff.mp q
    simp at h1 h2
    subst h2
    cases h
    exact ⟨h1, rfl⟩
theorem rngW_len {lo : Int} {n : Nat} : (rngW lo n).xs.length = n := by unfold rngW; simp
theorem walks_rng {lo : Int} {n : Nat} {m : List Addr} {H : Hp} : Walks W (Itr lo n) (rngW lo n) m H := by
  intro H1 m1 st1 e s1 _ i
  refine ⟨fun d hd => ?_, fun hi => by rw [rngW_len] at hi; exact hi⟩
  obtain ⟨h1, rfl⟩ := rngW_get hd
  exact ⟨h1, fun x H' y => by rw [y.1]; exact ⟨Ext.refl, s1, by rw [Rp]; exact y.2⟩⟩
theorem enumD_get (xs : List D) : ∀ (k i : Nat), (enumD k xs)[i]? = (xs[i]?).map fun x => D.tup [.int ((k + i : Nat) : Int), x] := by
  induction xs with
  | nil => intro k i; simp [enumD]
  | cons x xs ih =>
    intro k i
    rw [enumD]
    cases i with
    | zero => simp
    | succ i =>
      rw [List.getElem?_cons_succ, List.getElem?_cons_succ, ih]
      have : k + 1 + i = k + (i + 1) := by omega
      rw [this]
theorem enumD_len (xs : List D) : ∀ k, (enumD k xs).length = xs.length := by
  induction xs with
  | nil => intro k; rfl
  | cons x xs ih => intro k; rw [enumD, List.length_cons, List.length_cons, ih]
/-- one turn over numbered items -/
theorem enum_turn {a : Addr} {xs : List D} {vs : List V} {m1 : List Addr} {H1 : Hp} {st1 : Sto} (s1 : Sim W H1 m1 st1) (q1 : SqL W.K H1 a vs) (q2 : Rps W.K H1 m1 xs vs) (i : Nat) :
    (∀ d, (enumD 0 xs)[i]? = some d → (Ite W.K a).go i H1 ∧ ∀ x H', (Ite W.K a).yld i H1 x H' → Ext m1 m1 H1 H' ∧ Sim W H' m1 st1 ∧ Rp W.K H' m1 d x) ∧ ((enumD 0 xs).length ≤ i → (Ite W.K a).stop i H1) := by
  refine ⟨fun d hd => ?_, fun hi => ⟨vs, q1, by rw [enumD_len] at hi; rw [q2.len]; exact hi⟩⟩
  rw [enumD_get] at hd
  obtain ⟨x, hx, rfl⟩ := Option.map_eq_some_iff.mp hd
  obtain ⟨v, hv, rv⟩ := q2.get hx
  refine ⟨⟨vs, v, q1, hv⟩, fun y H' hy => ?_⟩
  obtain ⟨T, z, rfl, hT, rfl, hz⟩ := hy
  have := hz vs q1
  rw [hv] at this; cases this
  obtain ⟨s2, e2⟩ := s1.laid hT (.tup [.int (i : Nat), v])
  refine ⟨e2, s2, ?_⟩
  rw [Rp]
  refine ⟨T, [.int (i : Nat), v], rfl, SqT.of upd_same, ?_⟩
  rw [Rps]
  refine ⟨_, _, rfl, by rw [Rp, Nat.zero_add], .one (rv.up s1 e2)⟩
theorem pi_enumE (hX : XOk W cc Ns scp k E X) (hW : WOk W cc) {x : Expr} {a : IE} {nm : Str} {p pos tpos : Pos} {elts : List Expr} {kk : Nat} (hn : nm = "enumerate") (h1 : blB cc scp nm = true) (hs : isStar x = false) (he : PE X x (tE W E (ev C a))) :
    PI X (.Tuple elts kk tpos) (.Call (.Name nm p) [x] [] pos) (tI W E (evI C (.enum a))) := by
  obtain ⟨g1, g2, g3, g4⟩ := bl_of hX hW h1
  subst hn
  refine ⟨fun pins s σ H Rr I h => (pi_enum (tpos := tpos) (elts := elts) (kk := kk) g1 g2 (pa_cons he pa_nil (star_cons hs)) (star_cons hs)).run pins s σ H Rr I ?_⟩
  obtain ⟨m, ρ, st, sm, r, p⟩ := h
  rw [evI] at p
  refine ⟨m, ρ, st, sm, r, p.bind.imp fun d m1 st1 H1 e1 s1 p1 v rv => ?_⟩
  rw [hX.K]
  split at p1
  · rename_i n
    unfold wkD at p1
    simp only at p1
    split at p1
    · rename_i xs hx
      have p1 : Pg W E m1 H1 (.ok (Wk.enum ⟨xs, some (n, .lst xs)⟩) st1) _ := p1
      obtain ⟨b, rfl, hb, vs, h1, h2⟩ := loc_at s1 rv hx
      refine ⟨b, vs, rfl, SqL.of h1, p1.now s1 _ fun H2 m2 st2 e2 s2 hst i => ?_⟩
      have hst : decide (st2[n]? = some (.lst xs)) = true := hst
      have hst := of_decide_eq_true hst
      obtain ⟨c, hc, us, g1, g2⟩ := s2.at hst
      have := e2.at hb
      rw [hc] at this; cases this
      exact enum_turn s2 (SqL.of g1) g2 i
    · exact p1.elim
  · rename_i xs
    have p1 : Pg W E m1 H1 (.ok (Wk.enum ⟨xs, none⟩) st1) _ := p1
    rw [Rp] at rv
    obtain ⟨b, vs, rfl, h1, h2⟩ := rv
    exact ⟨b, vs, rfl, h1.l, p1.now s1 _ fun H2 m2 st2 e2 s2 hst i => enum_turn s2 (sqF_up s1 e2 h1).l (h2.up s1 e2) i⟩
  · exact p1.elim
theorem pi_itE {tg l : Expr} {a : IE} (hK : X.K = W.K) (he : PE X l (tE W E (ev C a))) : PI X tg l (tI W E (evI C (.it a))) := by
  refine ⟨fun pins s σ H Rr I h => ?_⟩
  obtain ⟨m, ρ, st, sm, r, p⟩ := h
  rw [evI] at p
  cases hev : ev C a ρ st with
  | stuck => rw [hev] at p; exact p.elim
  | exc e st1 =>
    refine (pi_list (tg := tg) he).run pins s σ H Rr I ⟨m, ρ, st, sm, r, ?_⟩
    rw [hev] at p ⊢
    exact p
  | ok d st1 =>
    rw [hev] at p
    have p : Pg W E m H (wkD d st1) _ := p
    cases d with
    | tup xs =>
      refine (pi_tup (tg := tg) he).run pins s σ H Rr I ⟨m, ρ, st, sm, r, ?_⟩
      rw [hev]
      intro H1 m1 e1 s1 v rv
      obtain ⟨b, vs, rfl, h1, h2⟩ := rv.tup_ref
      refine ⟨b, rfl, ⟨vs, by rw [hK]; exact h1⟩, p.go e1 s1 _ ?_⟩
      rw [hK]
      exact walks_tup s1 h1 h2
    | fl xs =>
      refine (pi_list (tg := tg) he).run pins s σ H Rr I ⟨m, ρ, st, sm, r, ?_⟩
      rw [hev]
      intro H1 m1 e1 s1 v rv
      rw [Rp] at rv
      obtain ⟨b, vs, rfl, h1, h2⟩ := rv
      refine ⟨b, rfl, ⟨vs, by rw [hK]; exact h1.l⟩, p.go e1 s1 _ ?_⟩
      rw [hK]
      exact walks_fl s1 h1 h2
    | loc n =>
      unfold wkD at p
      simp only at p
      split at p
      · rename_i xs hx
        refine (pi_list (tg := tg) he).run pins s σ H Rr I ⟨m, ρ, st, sm, r, ?_⟩
        rw [hev]
        intro H1 m1 e1 s1 v rv
        rw [Rp] at rv
        obtain ⟨b, hb, rfl⟩ := rv
        obtain ⟨b', hb', vs, h1, h2⟩ := s1.at hx
        rw [hb] at hb'; cases hb'
        refine ⟨b, rfl, ⟨vs, SqL.of h1⟩, p.go e1 s1 _ ?_⟩
        rw [hK]
        exact walks_lst hb
      · exact p.elim
    | _ => exact p.elim
theorem Pg.iOf {β : Type} {m : List Addr} {H : Hp} {d : D} {st : Sto} {f : Int → Sto → R β} {q : β → List Addr → Sto → Hp → Prop} (h : Pg W E m H ((iOf st d).bind f) q) : ∃ b, d = .int b ∧ Pg W E m H (f b st) q := by
  cases d with
  | int b => exact ⟨b, rfl, h⟩
  | _ => exact h.elim
theorem pi_rng1E (hX : XOk W cc Ns scp k E X) (hW : WOk W cc) {tg x : Expr} {a : IE} {nm : Str} {p pos : Pos} (hn : nm = "range") (h1 : blB cc scp nm = true) (hs : isStar x = false) (he : PE X x (tE W E (ev C a))) :
    PI X tg (.Call (.Name nm p) [x] [] pos) (tI W E (evI C (.rng1 a))) := by
  obtain ⟨g1, g2, g3, g4⟩ := bl_of hX hW h1
  subst hn
  refine ⟨fun pins s σ H Rr I h => (pi_range1 (tg := tg) g1 g2 (pa_cons he pa_nil (star_cons hs)) (star_cons hs)).run pins s σ H Rr I ?_⟩
  obtain ⟨m, ρ, st, sm, r, p⟩ := h
  rw [evI] at p
  refine ⟨m, ρ, st, sm, r, p.bind.imp fun d m1 st1 H1 e1 s1 p1 v rv => ?_⟩
  obtain ⟨i, rfl, p2⟩ := p1.iOf
  obtain ⟨c, p2⟩ := p2.ite
  rw [Rp] at rv; subst rv
  exact ⟨i, rfl, c.1, c.2, p2.now s1 _ walks_rng⟩
theorem pi_rng2E (hX : XOk W cc Ns scp k E X) (hW : WOk W cc) {tg x y : Expr} {a b : IE} {nm : Str} {p pos : Pos} (hn : nm = "range") (h1 : blB cc scp nm = true) (hs : isStar x = false) (hs2 : isStar y = false) (he : PE X x (tE W E (ev C a))) (hf : PE X y (tE W E (ev C b))) :
    PI X tg (.Call (.Name nm p) [x, y] [] pos) (tI W E (evI C (.rng2 a b))) := by
  obtain ⟨g1, g2, g3, g4⟩ := bl_of hX hW h1
  subst hn
  refine ⟨fun pins s σ H Rr I h => (pi_range2 (tg := tg) g1 g2 (pa_cons he (pa_cons hf pa_nil (star_cons hs2)) (star_cons hs)) (by rw [star_cons hs, star_cons hs2]; rfl) (star_cons hs2)).run pins s σ H Rr I ?_⟩
  obtain ⟨m, ρ, st, sm, r, p⟩ := h
  rw [evI] at p
  refine ⟨m, ρ, st, sm, r, p.bind.imp fun d m1 st1 H1 e1 s1 p1 v rv => ?_⟩
  refine ⟨m1, ρ, st1, s1, r.up sm e1, p1.bind.imp fun d2 m2 st2 H2 e2 s2 p2 u ru => ?_⟩
  obtain ⟨i, rfl, p3⟩ := p2.iOf
  obtain ⟨j, rfl, p4⟩ := p3.iOf
  obtain ⟨c, p5⟩ := p4.ite
  rw [Rp] at rv ru; subst rv ru
  exact ⟨i, j, rfl, ⟨c.1.1, c.1.2, c.2.1, c.2.2⟩, p5.now s2 _ walks_rng⟩

/-! ### comprehensions -/
theorem bind_ok {α β : Type} {r : R α} {f : α → Sto → R β} {b : β} {st : Sto} (h : r.bind f = .ok b st) : ∃ a st', r = .ok a st' ∧ f a st' = .ok b st := by
  cases r with
  | ok a st' => exact ⟨a, st', rfl, h⟩
  | exc e st' => cases h
  | stuck => cases h
def tC' (W : Wd) (E : XK) (f : Env → Sto → R Bool) : TT := tT W E f
theorem wipe_wipe (σ : L2.St) : ∀ vs : List Nat, L2.wipe (L2.wipe σ vs) vs = L2.wipe σ vs := by
  have set_none : ∀ (vs : List Nat) (τ : L2.St) (i : Nat), L2.wipe (τ.set i none) vs = (L2.wipe τ vs).set i none := by
    intro vs
    induction vs with
    | nil => intro τ i; rfl
    | cons z vz ih2 =>
      intro τ i
      unfold L2.wipe
      rw [ih2]
      by_cases h : i = z
      · subst h; rfl
      · rw [List.set_comm _ _ h]
  intro vs
  induction vs with
  | nil => rfl
  | cons v vs ih =>
    show (L2.wipe ((L2.wipe σ vs).set v none) vs).set v none = (L2.wipe σ vs).set v none
    rw [set_none, ih, List.set_set]
abbrev E0 : XK := fun _ _ _ => False
theorem comp_E {it : II} {t : IT} {own : List Nat} {c : IO} {e : IE} (hown : ∀ i ∈ t.slots, i ∈ own) {σ : L2.St} {H : Hp} {Q : VK} (h : tE W E (ev C (.comp e t own it c)) σ H Q) :
    tLc (tI W E (evI C it)) (gIT W.K t) (tT W E0 (evC C c)) (tE W E0 (ev C e)) own σ H Q := by
  obtain ⟨m, ρ, st, s, r, p⟩ := h
  have p : Pg W E m H ((evI C it ρ st).bind fun w st => ((compL w (turnC C t own c e ρ) w.xs st).noex).bind fun ys st => if ys.length ≤ LIM then .ok (.loc st.length) (st ++ [.lst ys]) else .stuck) (kD W Q) := by
    rw [ev] at p; exact p
  refine ⟨m, ρ, st, s, r, p.bind.imp fun w m1 st1 H1 e1 s1 p1 J hJ D0 hD0 => ?_⟩
  -- the whole comes to YS
  have r1 := r.up s e1
  obtain ⟨YS, stE, hall, p2⟩ : ∃ YS stE, compL w (turnC C t own c e ρ) w.xs st1 = .ok YS stE ∧ Pg W E m1 H1 (if YS.length ≤ LIM then .ok (.loc stE.length) (stE ++ [.lst YS]) else .stuck) (kD W Q) := by
    cases q : compL w (turnC C t own c e ρ) w.xs st1 with
    | ok YS stE => rw [q] at p1; exact ⟨YS, stE, rfl, p1⟩
    | exc x st2 => rw [q] at p1; exact p1.elim
    | stuck => rw [q] at p1; exact p1.elim
  obtain ⟨hlim, p2⟩ := p2.ite
  have stays_of : ∀ {xs : List D} {st2 : Sto} {zs : List D}, compL w (turnC C t own c e ρ) xs st2 = .ok zs stE → w.stays st2 = true := fun {xs st2 zs} h => by
    cases xs with
    | nil => unfold compL at h; split at h; assumption; cases h
    | cons x xs => unfold compL at h; split at h; assumption; cases h
  refine ⟨fun i mm H2 => mm = w.xs.length - i ∧ i ≤ w.xs.length ∧ ∃ m2 st2 acc ys zs, Sim W H2 m2 st2 ∧ Ext m1 m2 H1 H2 ∧ H2 D0 = some (.lst acc) ∧ D0 ∉ m2 ∧ Rps W.K H2 m2 ys acc ∧
    compL w (turnC C t own c e ρ) (w.xs.drop i) st2 = .ok zs stE ∧ ys ++ zs = YS ∧ EnvR W H2 m2 ρ σ, ⟨w.xs.length, by simp, Nat.zero_le _, ?_⟩, ?_⟩
  · obtain ⟨s2, e2⟩ := s1.laid hD0 (.lst [])
    refine ⟨m1, st1, [], [], YS, s2, e2, upd_same, fun z => ?_, by rw [Rps], by simpa using hall, rfl, r1.up s1 e2⟩
    obtain ⟨o, ho, _⟩ := s1.mu z
    rw [hD0] at ho; cases ho
  · rintro i mm H2 ⟨rfl, hi, m2, st2, acc, ys, zs, s2, e2, hD, hn, ra, hc, hz, r2⟩
    have hst := stays_of hc
    obtain ⟨w1, w2⟩ := hJ H2 m2 st2 e2 s2 hst i
    by_cases hlt : i < w.xs.length
    · right
      rw [List.drop_eq_getElem_cons hlt] at hc
      unfold compL at hc
      rw [if_pos hst] at hc
      obtain ⟨o, st3, h3, hc⟩ := bind_ok hc
      obtain ⟨zs', st4, h4, hc⟩ := bind_ok hc
      injection hc with hz1 hz2
      subst hz2
      obtain ⟨g1, g2⟩ := w1 _ (List.getElem?_eq_getElem hlt)
      refine ⟨g1, fun H' => ∃ m2 st2 acc ys zs, Sim W H' m2 st2 ∧ Ext m1 m2 H1 H' ∧ H' D0 = some (.lst acc) ∧ D0 ∉ m2 ∧ Rps W.K H' m2 ys acc ∧
        compL w (turnC C t own c e ρ) (w.xs.drop (i + 1)) st2 = .ok zs st4 ∧ ys ++ zs = YS ∧ EnvR W H' m2 ρ σ, fun H' q => ⟨w.xs.length - (i + 1), by omega, rfl, hlt, q⟩, fun x H' hy => ?_⟩
      obtain ⟨ey, sy, rx⟩ := g2 x H' hy
      obtain ⟨hD', hn'⟩ := ey.keep D0 _ hD (fun _ z => HO.noConfusion z) hn
      replace ra := ra.up s2 ey
      replace r2 := r2.up s2 ey
      replace e2 := e2.trans ey
      replace s2 := sy
      replace hD := hD'
      replace hn := hn'
      unfold turnC at h3
      split at h3
      · rename_i ρ' hρ
        refine gIT_ok rx (r2.wipe own) hρ fun σ' r3 hw => ⟨by rw [hw own hown, wipe_wipe], m2, ρ', st2, s2, r3, ?_⟩
        obtain ⟨b, st5, h5, h3⟩ := bind_ok h3
        rw [h5]
        intro H5 m5 e5 s5
        obtain ⟨k1, k2⟩ := e5.keep D0 _ hD (fun _ z => HO.noConfusion z) hn
        cases b with
        | true =>
          refine iteT ⟨m5, ρ', st5, s5, r3.up s2 e5, ?_⟩
          rw [if_pos rfl] at h3
          obtain ⟨y, st6, h6, h3⟩ := bind_ok h3
          rw [h6]
          intro H6 m6 e6 s6 v rv
          obtain ⟨l1, l2⟩ := e6.keep D0 _ k1 (fun _ z => HO.noConfusion z) k2
          injection h3 with h31 h32
          subst h31 h32
          have hlen : ys.length + 1 + zs'.length = YS.length := by rw [← hz, ← hz1]; simp; omega
          have e26 := (e2.trans e5).trans e6
          refine ⟨acc, l1, by rw [ra.len]; exact lim_lt (by omega), m6, st6, acc ++ [v], ys ++ [y], zs', s6.off l1 l2, e26.off hD0, upd_same, l2, ?_, h4, ?_, ?_⟩
          · exact (((ra.up s2 (e5.trans e6)).append (.one rv))).off l1
          · rw [← hz, ← hz1]; simp
          · have := r2.up s2 (e5.trans e6)
            exact ⟨this.1, fun j d hj => by
              obtain ⟨u, hu, ru⟩ := this.2 j d hj
              exact ⟨u, hu, ru.off l1⟩⟩
        | false =>
          refine iteF ?_
          rw [if_neg Bool.false_ne_true] at h3
          injection h3 with h31 h32
          subst h31 h32
          exact ⟨m5, st5, acc, ys, zs', s5, e2.trans e5, k1, k2, ra.up s2 e5, h4, by rw [← hz, ← hz1], r2.up s2 e5⟩
      · cases h3
    · left
      have hi' : i = w.xs.length := by omega
      subst hi'
      refine ⟨w2 (Nat.le_refl _), ?_⟩
      rw [List.drop_length] at hc
      unfold compL at hc
      rw [if_pos hst] at hc
      injection hc with hz1 hz2
      subst hz1 hz2
      rw [List.append_nil] at hz
      subst hz
      refine p2.go (e2.adopt hD0) (s2.adopt hD hn ra) _ ?_
      rw [Rp]
      refine ⟨D0, ?_, rfl⟩
      rw [List.getElem?_append_right (by rw [s2.len]; exact Nat.le_refl _), s2.len]
      simp
end
end Z
/-! a work told of: x(lambda: e) -/
namespace Z
open PySem L2
/-- a code object is no dict -/
theorem codeO_nd {P : Program} {w : World} {c : Addr} {q : Str} {xs : NdX} : LamX.CodeO c q ≠ NdO P w c xs := fun z => by
  have e : (fun h => ∃ (oc : Obj) (vs : Array Value) (t : Tok), h.get? c = some oc ∧ oc.data = .fields vs ∧ vs[1]? = some (.str q t)) = NdR P w c xs := HO.ext.inj z
  let o : Obj := { cls := .none, data := .fields #[.none, .str q 0] }
  let h : Heap := { (default : Heap) with objs := Array.replicate (c + 1) o }
  have hg : h.get? c = some o := by
    have e1 : h.objs[c]? = some o := by
      show (Array.replicate (c + 1) o)[c]? = some o
      simp
    unfold Heap.get?
    rw [e1]
  have h1 : NdR P w c xs h := by rw [← e]; exact ⟨o, _, 0, hg, rfl, rfl⟩
  obtain ⟨_, _, o', es, ep, e1, _, e2, _⟩ := h1
  rw [hg] at e1
  cases e1
  cases e2
section
variable {W : Wd} {cc : CC} {Ns : List Str} {scp : Scope} {k : Nat} {E : XK} {X : Cx} {C : Cl} {H H1 : Hp} {m : List Addr} {st : Sto}
theorem TabZ.tabs (t : TabZ W.T H m) : LamX.Tabs W.T H := fun p hp => by
  obtain ⟨ps, h1, h2, h3⟩ := t p hp
  refine ⟨ps, h1, h2, fun pos cv hc => ?_⟩
  obtain ⟨c, e1, e2, _⟩ := h3 pos cv hc
  exact ⟨c, e1, e2⟩
/-- all but the tables stays: the store is still told -/
theorem Sim.tabs (s : Sim W H m st) (e : LamX.ExtN H H1) (t : LamX.Tabs W.T H1) : Sim W H1 m st ∧ Ext m m H H1 := by
  have ex : Ext m m H H1 := ⟨⟨[], by simp⟩, fun a o h nt n => ⟨e a o h nt, n⟩⟩
  have hat : ∀ a ∈ m, H1 a = H a := fun a ha => by
    obtain ⟨o, h, hm⟩ := s.mu ha
    rw [h, e a o h fun ps z => by rw [z] at hm; cases hm]
  refine ⟨⟨s.len, s.nd, fun i c a h1 h2 => (s.ok i c a h1 h2).up s ex (hat a (List.mem_of_getElem? h2)), fun p hp => ?_⟩, ex⟩
  obtain ⟨ps, h1, h2, h3⟩ := t p hp
  refine ⟨ps, h1, h2, fun pos cv hc => ?_⟩
  obtain ⟨c, e1, e2⟩ := h3 pos cv hc
  refine ⟨c, e1, e2, fun z => ?_⟩
  rw [hat c z] at e2
  obtain ⟨i, hi⟩ := List.getElem?_of_mem z
  have hl : i < st.length := by rw [← s.len]; exact (List.getElem?_eq_some_iff.mp hi).1
  have q := s.ok i st[i] c (List.getElem?_eq_getElem hl) hi
  cases he : st[i] with
  | lst ds => rw [he] at q; obtain ⟨vs, g, _⟩ := q; rw [g] at e2; exact HO.noConfusion (Option.some.inj e2)
  | ins c' fs => rw [he] at q; obtain ⟨dx, gs, _, g, _⟩ := q; rw [g] at e2; exact HO.noConfusion (Option.some.inj e2)
  | dct kvs => rw [he] at q; obtain ⟨xs, g, _⟩ := q; rw [g] at e2; exact codeO_nd (Option.some.inj e2).symm
  | dck kvs => rw [he] at q; obtain ⟨xs, g, _⟩ := q; rw [g] at e2; exact HO.noConfusion (Option.some.inj e2)
/-- new things, which the store doesn't hold -/
theorem Sim.more (s : Sim W H m st) (e : ∀ b o, H b = some o → H1 b = some o) : Sim W H1 m st ∧ Ext m m H H1 := by
  have ex : Ext m m H H1 := ⟨⟨[], by simp⟩, fun a o h nt n => ⟨e a o h, n⟩⟩
  refine ⟨⟨s.len, s.nd, fun i c a h1 h2 => (s.ok i c a h1 h2).up s ex ?_, s.tb.to (fun b o h n _ => ⟨e b o h, n⟩) s.tm⟩, ex⟩
  obtain ⟨o, h, _⟩ := s.mu (List.mem_of_getElem? h2)
  rw [h, e a o h]
theorem told_E {a : IE} {σ : L2.St} {Q : VK} (h : tE W E (ev (W.cl k) (.told a)) σ H Q) : LamX.tLam W.T (TTz W) (fun E' => tE W E' (ev (W.cl k) a)) σ H Q := by
  obtain ⟨m, ρ, st, s, r, p⟩ := h
  rw [ev] at p
  refine ⟨s.tb.tabs, fun H1 e t => ?_⟩
  obtain ⟨s1, e1⟩ := s.tabs e t
  refine ⟨m, ρ, st, s1, r.up s e1, ?_⟩
  replace p := Pg.up e1 p
  have htw : (W.cl k).tw = W.pr.tw := rfl
  rw [htw] at p
  cases hr : ev (W.cl k) a ρ st with
  | ok d st' => rw [hr] at p; exact p
  | stuck => rw [hr] at p; exact p
  | exc x st' =>
    rw [hr] at p
    unfold toldR at p
    intro dx H' m' e' s' hx
    unfold ExR at hx
    dsimp only at p
    split at p
    · rename_i w h1 h2
      rw [h2] at hx
      refine ⟨x.c, w, none, .int 0, rfl, h1, fun _ => ⟨hx, rfl⟩, fun f z => (by cases z), fun H'' pp hm hp => ?_⟩
      obtain ⟨s2, e2⟩ := s'.more hm
      obtain ⟨s3, e3⟩ := s2.laid hp (.tup [.str (sOf w), .int 0])
      refine p.go ((e'.trans e2).trans e3) s3 _ ?_
      rw [Rp]
      refine ⟨pp, _, rfl, SqT.of upd_same, ?_⟩
      rw [Rps]
      exact ⟨_, _, rfl, by rw [Rp], .one (by rw [Rp])⟩
    · rename_i w f g d h1 h2
      rw [h2] at hx
      obtain ⟨aa, v, hdx, hH, rv⟩ := hx
      obtain ⟨hgf, p2⟩ := p.ite
      clear p
      subst hgf
      refine ⟨x.c, w, some g, v, rfl, h1, fun z => (by cases z), fun f z => (by cases z; exact ⟨aa, hdx, hH⟩), fun H'' pp hm hp => ?_⟩
      obtain ⟨s2, e2⟩ := s'.more hm
      obtain ⟨s3, e3⟩ := s2.laid hp (.tup [.str (sOf w), v])
      refine p2.go ((e'.trans e2).trans e3) s3 _ ?_
      rw [Rp]
      refine ⟨pp, _, rfl, SqT.of upd_same, ?_⟩
      rw [Rps]
      exact ⟨_, _, rfl, by rw [Rp], .one ((rv.up s' e2).up s2 e3)⟩
    · exact p.elim
theorem lamArgs_ok {params : Arguments} (h : lamArgs params = true) : params = ⟨[], [], none, [], [], none, []⟩ := by
  obtain ⟨a1, a2, a3, a4, a5, a6, a7⟩ := params
  unfold lamArgs at h
  simp only [Bool.and_eq_true, List.isEmpty_iff, Option.isNone_iff_eq_none] at h
  obtain ⟨⟨⟨⟨⟨⟨rfl, rfl⟩, rfl⟩, rfl⟩, rfl⟩, rfl⟩, rfl⟩ := h
  rfl
theorem WOk.nolam (h : WOk W cc) : WOk W { cc with lam := none } := ⟨h.fn, h.bi, h.gl, h.bl, h.cl, h.cls, h.nf, h.mkk, h.mt, h.td, h.x0, h.x1⟩
theorem XOk.lam (h : XOk W cc Ns scp k E X) {A : Around} {outer : List PySem.Env} {s : Shared} {H : Hp} {E' : XK} {scope : Scope} {f c' : Addr} (hr : Room (4 * k + 2) (A.deeper (LamX.lamEnv X scope s.heap.objs.size f c'))) :
    XOk W { cc with lam := none } Ns scope k E' (LamX.lamCx X A outer s H E' scope f c') :=
  ⟨h.prog, h.w, h.K, h.mg, h.base, h.N, h.nd, rfl, rfl, hr, passes_call (takes_of rfl rfl rfl rfl) fun _ _ _ _ h => h, fun c q z => nomatch z⟩
theorem pe_toldE (hX : XOk W cc Ns scp k E X) (hW : WOk W cc) {x : Str} {a : IE} {params : Arguments} {body : Expr} {scope : Scope} {p lpos pos : Pos} (hx : cc.tdef = some x) (hg : glB scp x = true) (hl : cc.lam.isSome = true) (ha : lamArgs params = true) (hs : LamX.lamSB scp scope = true)
    (hb : ∀ (E' : XK) (X' : Cx), XOk W { cc with lam := none } Ns scope k E' X' → PE X' body (tE W E' (ev (W.cl k) a))) : PE X (.Call (.Name x p) [.Lambda params body scope lpos] [] pos) (tE W E (ev (W.cl k) (.told a))) := by
  obtain ⟨g, pg, bg, sg, dV, kV, doc, pm, cdv, ct, oc, an, od, osl, Ng, b, h1, h2, h3, h4, h5, h6, h7, h8, h9, h10, hG⟩ := (hW.td x hx).ex
  obtain ⟨⟨c, q⟩, hcq⟩ := Option.isSome_iff_exists.mp hl
  obtain ⟨hr, l1, l2, P, TB, l3, l4⟩ := hX.lm c q hcq
  obtain ⟨g1, g2⟩ := gl_of hg hX.sc
  have := lamArgs_ok ha
  subst this
  refine PE.weak (LamX.pe_lamcall (T := W.T) (TT := TTz W) (k := 4 * k + 2) g1 (by rw [hX.mg]; exact h1) (by rw [hX.K]; exact h2) (by rw [hX.K]; exact h3) (by rw [hX.K]; exact h4) (by rw [hX.K]; exact h5) h6 h7 h8
    (hG X _ hX.prog hX.w hX.K hX.mg hX.base (hX.room.mono (by omega))) TB l1 (by rw [l2]; exact l3) (by rw [l2]; exact l4) hr (LamX.lamS_by (by rw [hX.sc]; exact hs)) rfl (fun _ _ _ _ _ => rfl) (fun A outer s H E' f c' hr' => hb E' _ (hX.lam hr')) g2 h9 h10) fun σ H Q w => told_E w
theorem mn2_E {mx : Bool} {a b : IE} {σ : L2.St} {Q : VK} (h : tE W E (ev (W.cl k) (.mn2 mx a b)) σ H Q) : tCB (fun xs H Q => ∃ i j : Int, xs = [.int i, .int j] ∧ Q (.int (if mx = true then (if i < j then j else i) else (if j < i then j else i))) H) (tCons (tE W E (ev (W.cl k) a)) (tCons (tE W E (ev (W.cl k) b)) tNil)) σ H Q := by
  obtain ⟨m, ρ, st, s, r, p⟩ := h
  rw [ev] at p
  refine ⟨m, ρ, st, s, r, p.bind.imp fun d m1 st1 H1 e1 s1 p1 v rv => ?_⟩
  refine ⟨m1, ρ, st1, s1, r.up s e1, p1.bind.imp fun d2 m2 st2 H2 e2 s2 p2 u ru => ?_⟩
  obtain ⟨i, rfl, p3⟩ := p2.iOf
  obtain ⟨j, rfl, p4⟩ := p3.iOf
  rw [Rp] at rv ru; subst rv ru
  exact ⟨i, j, rfl, kD_now p4 s2 (by rw [Rp])⟩
theorem pe_mn2E (hX : XOk W cc Ns scp k E X) (hW : WOk W cc) {mx : Bool} {a b : IE} {nm : Str} {x y : Expr} {p pos : Pos} (hn : nm = if mx = true then "max" else "min") (h1 : blB cc scp nm = true) (hs : isStar x = false) (hs2 : isStar y = false) (he : PE X x (tE W E (ev (W.cl k) a))) (hf : PE X y (tE W E (ev (W.cl k) b))) :
    PE X (.Call (.Name nm p) [x, y] [] pos) (tE W E (ev (W.cl k) (.mn2 mx a b))) := by
  obtain ⟨g1, g2, g3, g4⟩ := bl_of hX hW h1
  subst hn
  refine PE.weak ?_ fun σ H Q w => mn2_E w
  cases mx with
  | true => exact pe_callB (call_max2 hX.calm) g1 g2 (by decide +kernel) (pa_cons he (pa_cons hf pa_nil (star_cons hs2)) (star_cons hs)) g3 g4 (star_cons hs) (by rw [star_cons hs2]; rfl)
  | false => exact pe_callB (call_min2 hX.calm) g1 g2 (by decide +kernel) (pa_cons he (pa_cons hf pa_nil (star_cons hs2)) (star_cons hs)) g3 g4 (star_cons hs) (by rw [star_cons hs2]; rfl)
end
end Z
namespace Z
open PySem L2
section
variable {W : Wd} {cc : CC} {Ns : List Str} {k : Nat}
theorem bex {a b : Bool} (h : (a && b) = true) : a = true ∧ b = true := by rw [Bool.and_eq_true] at h; exact h
theorem bnot {a : Bool} (h : (!a) = true) : a = false := by simpa using h
theorem chkEs_stars : ∀ {es : IEs} {scp : Scope} {xs : List Expr}, chkEs cc Ns scp es xs = true → noStars xs = true
  | .nil, scp, [], h => rfl
  | .nil, scp, _ :: _, h => by unfold chkEs at h; cases h
  | .cons a r, scp, [], h => by unfold chkEs at h; cases h
  | .cons a r, scp, x :: xs, h => by
    unfold chkEs at h
    obtain ⟨h1, h2⟩ := bex h
    obtain ⟨h3, h4⟩ := bex h1
    rw [noStars, h3, chkEs_stars h2]; rfl
theorem chkEs_nil {es : IEs} {scp : Scope} {xs : List Expr} (h : chkEs cc Ns scp es xs = true) : xs = [] → es = .nil := fun e => by
  subst e
  cases es with
  | nil => rfl
  | cons a r => unfold chkEs at h; cases h
theorem XOk.blk {scp scope : Scope} {E : XK} {X : Cx} (h : XOk W cc Ns scp k E X) (s : Shared) (H : Hp) (C : Addr) (cl : List (Str × Addr)) (fp : List Addr) : XOk W cc Ns (relS scope scp) k E0 (X.blk s H scope (compEnvC scope cl C X.env) fp) :=
  ⟨h.prog, h.w, h.K, h.mg, h.base, h.N, h.nd, by rw [← h.sc]; rfl, h.calm, h.room, passL, h.lm⟩
theorem XOk.tblk {scp scope : Scope} {E : XK} {X : Cx} (h : XOk W cc Ns scp k E X) (s : Shared) (H : Hp) (C : Addr) (cl : List (Str × Addr)) (fp : List Addr) : TOk Ns (relS scope scp) (fun x => scope.names.lookup x == some .cell) (X.blk s H scope (compEnvC scope cl C X.env) fp) :=
  ⟨h.N, h.nd, by rw [← h.sc]; rfl, rfl, h.calm⟩
def isBool : Expr → Bool
  | .BoolOp .. => true
  | _ => false
structure Tri (X : Cx) (e : Expr) (t : TE) (tt : TT) : Prop where
  pe : PE X e t
  pt : PT X e tt
  pw : isBool e = true → PW X e tt
theorem PT.of {X : Cx} {e : Expr} {E : XK} {f : Env → Sto → R D} (h : PE X e (tE W E f)) (he : plainT e = true) : PT X e (tT W E fun ρ st => (f ρ st).bind fun x st => bOf st x) :=
  PT.weak (pt_val h (isTrue_of he)) fun σ H Q w => tE_bl w
theorem Tri.plain {X : Cx} {e : Expr} {E : XK} {f : Env → Sto → R D} (h : PE X e (tE W E f)) (he : plainT e = true) : Tri X e (tE W E f) (tT W E fun ρ st => (f ρ st).bind fun x st => bOf st x) :=
  ⟨h, PT.of h he, fun z => by cases e <;> first | (cases he; done) | (cases z; done)⟩
theorem pt_ifExp {X : Cx} {c a b : Expr} {tc ta tb : TT} {pos : Pos} (hc : PT X c tc) (ha : PT X a ta) (hb : PT X b tb) : PT X (.IfExp c a b pos) (fun σ H Q => tc σ H fun k H1 => if k = true then ta σ H1 Q else tb σ H1 Q) := by
  refine ⟨fun pins s σ H Q I h => ?_⟩
  show wpAny _ _ (do if ← isTrue c X.env (eval c X.env) then isTrue a X.env (eval a X.env) else isTrue b X.env (eval b X.env)) _ _ s
  refine PySem.wpAny_bind (thn (hc.run pins s σ H _ I h) fun k s1 ⟨H1, I1, q⟩ => ?_)
  cases k with
  | true => exact ha.run pins s1 σ H1 Q I1 q
  | false => exact hb.run pins s1 σ H1 Q I1 q
theorem two_E {E : XK} {f g h' : Env → Sto → R D} {hh : D → D → Sto → R D} (e : ∀ ρ st, h' ρ st = (f ρ st).bind fun x st => (g ρ st).bind fun y st => hh x y st) {σ : L2.St} {H : Hp} {Q : VK} (w : tE W E h' σ H Q) : tE W E (fun ρ st => (f ρ st).bind fun x st => (g ρ st).bind fun y st => hh x y st) σ H Q := by
  obtain ⟨m, ρ, st, s, r, p⟩ := w
  rw [e] at p
  exact ⟨m, ρ, st, s, r, p⟩
theorem one_E {E : XK} {f h' : Env → Sto → R D} {hh : D → Sto → R D} (e : ∀ ρ st, h' ρ st = (f ρ st).bind hh) {σ : L2.St} {H : Hp} {Q : VK} (w : tE W E h' σ H Q) : tE W E (fun ρ st => (f ρ st).bind hh) σ H Q := by
  obtain ⟨m, ρ, st, s, r, p⟩ := w
  rw [e] at p
  exact ⟨m, ρ, st, s, r, p⟩
theorem units100 {scp : Scope} {E : XK} {X : Cx} (h : XOk W cc Ns scp k E X) : X.A.units + 100 < cLine := by have := h.room.un; omega
/-- a new thing at p -/
theorem new_cell {E : XK} {m : List Addr} {H : Hp} {st : Sto} {Q : VK} (s : Sim W H m st) {p : Addr} (hp : H p = none) {o : HO} {c : Cell} (hc : CellOk W (upd H p o) (m ++ [p]) p c) (h : Pg W E m H (.ok (.loc st.length) (st ++ [c])) (kD W Q)) : Q (.ref p) (upd H p o) := by
  obtain ⟨s', e⟩ := s.push hp hc
  refine h.go e s' (.ref p) ?_
  rw [Rp]
  refine ⟨p, ?_, rfl⟩
  rw [List.getElem?_append_right (by rw [s.len]; exact Nat.le_refl _), s.len]
  simp
theorem cch_E {E : XK} {C : Cl} {o o' : COp} {a b c : IE} {σ : L2.St} {H : Hp} {Q : VK} (h : tE W E (ev C (.cch o o' a b c)) σ H Q) : tChain (rCmp W o) (rCmp W o') (tE W E (ev C a)) (tE W E (ev C b)) (tE W E (ev C c)) σ H Q := by
  obtain ⟨m, ρ, st, s, r, p⟩ := h
  rw [ev] at p
  refine ⟨m, ρ, st, s, r, p.bind.imp fun x m1 st1 H1 e1 s1 p1 v rv => ?_⟩
  refine ⟨m1, ρ, st1, s1, r.up s e1, p1.bind.imp fun y m2 st2 H2 e2 s2 p2 u ru => ?_⟩
  have r2 := (r.up s e1).up s1 e2
  refine cmp_ok (E := E) s2 (rv.up s1 e2) ru (p2.bind.imp fun z m3 st3 H3 e3 s3 p3 w rw' => ?_)
  cases z with
  | bl k =>
    rw [Rp] at rw'
    subst rw'
    have p3 : Pg W E m3 H3 (if k = true then (ev C c ρ st3).bind fun w st => cmpD o' y w st else .ok (.bl false) st3) (kD W Q) := p3
    refine ⟨k, rfl, ?_⟩
    cases k with
    | true =>
      rw [if_pos rfl] at p3 ⊢
      exact ⟨m3, ρ, st3, s3, r2.up s2 e3, p3.bind.imp fun w m4 st4 H4 e4 s4 p4 t rt => cmp_ok s4 ((ru.up s2 e3).up s3 e4) rt p4⟩
    | false =>
      rw [if_neg Bool.false_ne_true] at p3 ⊢
      exact p3.now s3 _ (by rw [Rp])
  | _ => exact p3.elim
theorem rg_rel {K : PySem.W.Frag} {H : Hp} {m : List Addr} (a b : Int) : Rps K H m (rngW a (b - a).toNat).xs (rgV a b) := by
  unfold rngW rgV
  simp only
  generalize (List.range (b - a).toNat) = l
  induction l with
  | nil => rw [List.map_nil, List.map_nil, Rps]
  | cons x l ih => rw [List.map_cons, List.map_cons, Rps]; exact ⟨_, _, rfl, by rw [Rp], ih⟩
theorem units64 {scp : Scope} {E : XK} {X : Cx} (h : XOk W cc Ns scp k E X) : X.A.units + 64 < cLine := h.room.units
mutual
/-- THE RULE for expressions -/
theorem snd (L : Lv W k) : ∀ (a : IE) {cc : CC} (hW : WOk W cc) {scp : Scope} {E : XK} {X : Cx} {e : Expr}, chkE cc Ns scp a e = true → XOk W cc Ns scp k E X → Tri X e (tE W E (ev (W.cl k) a)) (tT W E (evT (W.cl k) a))
  | .var i, cc, hW, scp, E, X, e, h, hX => by
    unfold chkE at h
    split at h
    · obtain ⟨h1, h4⟩ := bex h
      obtain ⟨h1, h3⟩ := bex h1
      obtain ⟨h1, h2⟩ := bex h1
      refine .plain (PE.weak (pe_var (by rw [hX.N]; exact of_decide_eq_true h1) (vis_of h2 hX.sc) (of_decide_eq_true h3) (of_decide_eq_true h4)) fun σ H Q w => tE_var w) rfl
    · cases h
  | .cst d, cc, hW, scp, E, X, e, h, hX => by
    unfold chkE at h
    have cst : ∀ {v : V} {t : TE}, PE X e t → (∀ σ H Q, Q v H → t σ H Q) → (∀ H m, Rp W.K H m d v) → PE X e (tE W E (ev (W.cl k) (.cst d))) := fun {v t} p q r =>
      PE.weak p fun σ H Q w => q σ H Q (tE_cst (d := d) (by obtain ⟨m, ρ, st, s, rr, w⟩ := w; rw [ev] at w; exact ⟨m, ρ, st, s, rr, w⟩) (r H))
    split at h
    · unfold cstOk at h
      split at h
      · refine .plain (cst pe_non (fun _ _ _ q => q) fun _ _ => by rw [Rp]) rfl
      · have := eq_of_beq h; subst this
        refine .plain (cst pe_bl (fun _ _ _ q => q) fun _ _ => by rw [Rp]) rfl
      · have := of_decide_eq_true h; subst this
        refine .plain (cst pe_int (fun _ _ _ q => q) fun _ _ => by rw [Rp]) rfl
      · have := of_decide_eq_true h; subst this
        refine .plain (cst pe_str (fun _ _ _ q => q) fun _ _ => by rw [Rp]) rfl
      · cases h
    · have := of_decide_eq_true h; subst this
      refine .plain (cst (pe_un un_neg pe_int) (fun _ _ _ q => ⟨_, rfl, q⟩) fun _ _ => by rw [Rp]) rfl
    · cases h
  | .gl d, cc, hW, scp, E, X, e, h, hX => by
    unfold chkE at h
    split at h
    · obtain ⟨h1, h2⟩ := bex h
      obtain ⟨g1, g2⟩ := gl_of h1 hX.sc
      obtain ⟨u, v, k1, k2, k3⟩ := hW.gl _ d (of_decide_eq_true h2)
      refine .plain (PE.weak (pe_glob g1 (by rw [hX.mg]; exact k1) k2 g2) fun σ H Q w => tE_cst (d := d) (v := v) (by obtain ⟨m, ρ, st, s, rr, w⟩ := w; rw [ev] at w; exact ⟨m, ρ, st, s, rr, w⟩) (k3 H)) rfl
    · cases h
  | .tup es, cc, hW, scp, E, X, e, h, hX => by
    unfold chkE at h
    split at h
    · refine .plain (PE.weak (pe_tup (sndEs L es hW h hX)) fun σ H Q w => tup_E w) rfl
    · cases h
  | .lst es, cc, hW, scp, E, X, e, h, hX => by
    unfold chkE at h
    split at h
    · refine .plain (PE.weak (pe_lst (sndEs L es hW h hX)) fun σ H Q w => lst_E w) rfl
    · cases h
  | .bin o a b, cc, hW, scp, E, X, e, h, hX => by
    unfold chkE at h
    split at h
    · obtain ⟨h1, h3⟩ := bex h
      obtain ⟨h1, h2⟩ := bex h1
      refine .plain (PE.weak (pe_op (op_rBin h1 hX.K) (snd L a hW h2 hX).pe (snd L b hW h3 hX).pe) fun σ H Q w => (two_E (fun ρ st => by rw [ev]) w).two fun m st H d v e u s r1 r2 p => bin_ok s r1 r2 p) rfl
    · cases h
  | .cmp o a b, cc, hW, scp, E, X, e, h, hX => by
    unfold chkE at h
    split at h
    · obtain ⟨h1, h4⟩ := bex h
      obtain ⟨h1, h3⟩ := bex h1
      obtain ⟨h1, h2⟩ := bex h1
      have two : ∀ σ H Q, tE W E (ev (W.cl k) (.cmp o a b)) σ H Q → tOp (rCmp W o) (tE W E (ev (W.cl k) a)) (tE W E (ev (W.cl k) b)) σ H Q := fun σ H Q w => (two_E (fun ρ st => by rw [ev]) w).two fun m st H d v e u s r1 r2 p => cmp_ok s r1 r2 p
      exact ⟨PE.weak (pe_cmpR (op_rCmp h1 hX.prog hX.w hX.K (units100 hX)) (snd L a hW h3 hX).pe (snd L b hW h4 hX).pe (bnot h2)) two, PT.weak (pt_cmpR (op_rCmp h1 hX.prog hX.w hX.K (units100 hX)) (snd L a hW h3 hX).pe (snd L b hW h4 hX).pe (bnot h2)) fun σ H Q w => two σ H _ (tE_bl w), fun z => by cases z⟩
    · cases h
  | .and a b, cc, hW, scp, E, X, e, h, hX => by
    unfold chkE at h
    split at h
    · obtain ⟨h1, h2⟩ := bex h
      have q := PW.weak (pw_and (pos := ‹Pos›) (snd L a hW h1 hX).pt (pw_and1 (snd L b hW h2 hX).pt)) fun σ H Q w => and_T (C := W.cl k) (a := a) (b := b) w
      exact ⟨PE.weak (pe_and (snd L a hW h1 hX).pe (pe_one (snd L b hW h2 hX).pe)) fun σ H Q w => and_V w, q.pt, fun _ => q⟩
    · obtain ⟨h1, h2⟩ := bex h
      have q := PW.weak (pw_and (pos := ‹Pos›) (snd L a hW h1 hX).pt ((snd L b hW h2 hX).pw rfl)) fun σ H Q w => and_T (C := W.cl k) (a := a) (b := b) w
      exact ⟨PE.weak (pe_and (snd L a hW h1 hX).pe (snd L b hW h2 hX).pe) fun σ H Q w => and_V w, q.pt, fun _ => q⟩
    · cases h
  | .or a b, cc, hW, scp, E, X, e, h, hX => by
    unfold chkE at h
    split at h
    · obtain ⟨h1, h2⟩ := bex h
      have q := PW.weak (pw_or (pos := ‹Pos›) (snd L a hW h1 hX).pt (pw_or1 (snd L b hW h2 hX).pt)) fun σ H Q w => or_T (C := W.cl k) (a := a) (b := b) w
      exact ⟨PE.weak (pe_or (snd L a hW h1 hX).pe (pe_one (snd L b hW h2 hX).pe)) fun σ H Q w => or_V w, q.pt, fun _ => q⟩
    · obtain ⟨h1, h2⟩ := bex h
      have q := PW.weak (pw_or (pos := ‹Pos›) (snd L a hW h1 hX).pt ((snd L b hW h2 hX).pw rfl)) fun σ H Q w => or_T (C := W.cl k) (a := a) (b := b) w
      exact ⟨PE.weak (pe_or (snd L a hW h1 hX).pe (snd L b hW h2 hX).pe) fun σ H Q w => or_V w, q.pt, fun _ => q⟩
    · cases h
  | .not a, cc, hW, scp, E, X, e, h, hX => by
    unfold chkE at h
    split at h
    · exact ⟨PE.weak (pe_not (snd L a hW h hX).pe) fun σ H Q w => not_V w, PT.weak (pt_not (snd L a hW h hX).pt) fun σ H Q w => not_T w, fun z => by cases z⟩
    · cases h
  | .ite c a b, cc, hW, scp, E, X, e, h, hX => by
    unfold chkE at h
    split at h
    · obtain ⟨h1, h3⟩ := bex h
      obtain ⟨h1, h2⟩ := bex h1
      exact ⟨PE.weak (pe_ifExp (snd L c hW h1 hX).pt (snd L a hW h2 hX).pe (snd L b hW h3 hX).pe) fun σ H Q w => ite_V w, PT.weak (pt_ifExp (snd L c hW h1 hX).pt (snd L a hW h2 hX).pt (snd L b hW h3 hX).pt) fun σ H Q w => ite_T w, fun z => by cases z⟩
    · cases h
  | .ix a i, cc, hW, scp, E, X, e, h, hX => by
    unfold chkE at h
    split at h
    · obtain ⟨h1, h3⟩ := bex h
      obtain ⟨h1, h2⟩ := bex h1
      have q := ix_A hX.prog hX.w hX.K (units100 hX)
      refine .plain (PE.weak (pe_ix q (snd L a hW h2 hX).pe (snd L i hW h3 hX).pe (plainIx_of (bnot h1))) fun σ H Q w => (two_E (fun ρ st => by rw [ev]) w).two fun m st H d v e u s r1 r2 p => ix_ok s r1 r2 p) rfl
    · cases h
  | .sl a lo hi, cc, hW, scp, E, X, e, h, hX => by
    unfold chkE at h
    split at h
    · obtain ⟨h1, h3⟩ := bex h
      obtain ⟨h1, h2⟩ := bex h1
      refine .plain (PE.weak (pe_slice (op_rSl hX.K) (snd L a hW h1 hX).pe (sndO L lo hW h2 hX) (sndO L hi hW h3 hX)) fun σ H Q w => ?_) rfl
      obtain ⟨m, ρ, st, s, r, p⟩ := w
      rw [ev] at p
      refine ⟨m, ρ, st, s, r, p.bind.imp fun d m1 st1 H1 e1 s1 p1 v rv => ?_⟩
      refine ⟨m1, ρ, st1, s1, r.up s e1, p1.bind.imp fun l m2 st2 H2 e2 s2 p2 => ?_⟩
      exact ⟨m2, ρ, st2, s2, (r.up s e1).up s1 e2, p2.bind.imp fun u m3 st3 H3 e3 s3 p3 => sl_ok s3 ((rv.up s1 e2).up s2 e3) p3⟩
    · cases h
  | .rev a, cc, hW, scp, E, X, e, h, hX => by
    unfold chkE at h
    split at h
    · refine .plain (PE.weak (pe_revA (snd L a hW h hX).pe) fun σ H Q w => (one_E (fun ρ st => by rw [ev]) w).one fun m st H d v s r p => ?_) rfl
      rw [hX.K]
      exact rev_ok s r p
    · cases h
  | .fld a f, cc, hW, scp, E, X, e, h, hX => by
    unfold chkE at h
    split at h
    · obtain ⟨h1, h4⟩ := bex h
      obtain ⟨h1, h3⟩ := bex h1
      obtain ⟨h1, h2⟩ := bex h1
      have := of_decide_eq_true h1; subst this
      refine .plain (PE.weak (pe_fld (snd L a hW h4 hX).pe (base_of h3)) fun σ H Q w => by rw [hX.K]; exact fld_E hW (of_decide_eq_true h2) w) rfl
    · cases h
  | .isi a kd, cc, hW, scp, E, X, e, h, hX => by
    unfold chkE at h
    split at h
    · obtain ⟨h1, h6⟩ := bex h
      obtain ⟨h1, h5⟩ := bex h1
      obtain ⟨h1, h4⟩ := bex h1
      obtain ⟨h1, h3⟩ := bex h1
      obtain ⟨h1, h2⟩ := bex h1
      refine .plain (pe_isiE hX hW (of_decide_eq_true h1) (of_decide_eq_true h2) h3 h4 (bnot h5) (snd L a hW h6 hX).pe) rfl
    · cases h
  | .bi b a, cc, hW, scp, E, X, e, h, hX => by
    unfold chkE at h
    split at h
    · obtain ⟨h1, h4⟩ := bex h
      obtain ⟨h1, h3⟩ := bex h1
      obtain ⟨h1, h2⟩ := bex h1
      refine .plain (pe_biE hX hW (of_decide_eq_true h1) h2 (bnot h3) (snd L a hW h4 hX).pe) rfl
    · cases h
  | .call f es, cc, hW, scp, E, X, e, h, hX => by
    unfold chkE at h
    split at h
    · obtain ⟨h1, h3⟩ := bex h
      obtain ⟨h1, h2⟩ := bex h1
      refine .plain (pe_callE hX hW L (of_decide_eq_true h1) h2 (chkEs_stars h3) (sndEs L es hW h3 hX) (chkEs_nil h3)) rfl
    · cases h
  | .mk c es, cc, hW, scp, E, X, e, h, hX => by
    unfold chkE at h
    split at h
    · obtain ⟨h1, h3⟩ := bex h
      obtain ⟨h1, h2⟩ := bex h1
      refine .plain (pe_mkE hX hW L (of_decide_eq_true h1) h2 (chkEs_stars h3) (sndEs L es hW h3 hX) (chkEs_nil h3)) rfl
    · cases h
  | .me0 me a, cc, hW, scp, E, X, e, h, hX => by
    unfold chkE at h
    split at h
    · obtain ⟨h1, h5⟩ := bex h
      obtain ⟨h1, h4⟩ := bex h1
      obtain ⟨h1, h3⟩ := bex h1
      obtain ⟨h1, h2⟩ := bex h1
      refine .plain (pe_me0E hX (of_decide_eq_true h1) h3 h4 (of_decide_eq_true h2) (snd L a hW h5 hX).pe) rfl
    · cases h
  | .me1 me a b, cc, hW, scp, E, X, e, h, hX => by
    unfold chkE at h
    split at h
    · obtain ⟨h1, h7⟩ := bex h
      obtain ⟨h1, h6⟩ := bex h1
      obtain ⟨h1, h5⟩ := bex h1
      obtain ⟨h1, h4⟩ := bex h1
      obtain ⟨h1, h3⟩ := bex h1
      obtain ⟨h1, h2⟩ := bex h1
      refine .plain (pe_me1E hX (of_decide_eq_true h1) h3 h5 (of_decide_eq_true h2) (bnot h4) (snd L a hW h6 hX).pe (snd L b hW h7 hX).pe) rfl
    · cases h
  | .om x mi a es, cc, hW, scp, E, X, e, h, hX => by
    unfold chkE at h
    split at h
    · obtain ⟨h1, h7⟩ := bex h
      obtain ⟨h1, h6⟩ := bex h1
      obtain ⟨h1, h5⟩ := bex h1
      obtain ⟨h1, h4⟩ := bex h1
      obtain ⟨h1, h3⟩ := bex h1
      obtain ⟨h1, h2⟩ := bex h1
      have := of_decide_eq_true h1; subst this
      refine .plain (pe_omE hX hW L (of_decide_eq_true h2) h3 h4 (of_decide_eq_true h5) (snd L a hW h6 hX).pe (chkEs_stars h7) (sndEs L es hW h7 hX) (chkEs_nil h7)) rfl
    · cases h
  | .dnew t, cc, hW, scp, E, X, e, h, hX => by
    unfold chkE at h
    split at h
    · cases t with
      | true =>
        refine .plain (PE.weak pe_ndNew fun σ H Q w p hp => ?_) rfl
        obtain ⟨m, ρ, st, s, r, w⟩ := w
        rw [ev, if_pos rfl] at w
        rw [hX.prog, hX.w]
        exact new_cell s hp (c := .dct []) ⟨[], upd_same, rfl⟩ w
      | false =>
        refine .plain (PE.weak pe_dnewK fun σ H Q w p hp => ?_) rfl
        obtain ⟨m, ρ, st, s, r, w⟩ := w
        rw [ev, if_neg Bool.false_ne_true] at w
        exact new_cell s hp (c := .dck []) ⟨[], upd_same, rfl⟩ w
    · cases h
  | .cch o o' a b c, cc, hW, scp, E, X, e, h, hX => by
    unfold chkE at h
    split at h
    · obtain ⟨h1, h6⟩ := bex h
      obtain ⟨h1, h5⟩ := bex h1
      obtain ⟨h1, h4⟩ := bex h1
      obtain ⟨h1, h3⟩ := bex h1
      obtain ⟨h1, h2⟩ := bex h1
      have q1 := op_rCmp h1 hX.prog hX.w hX.K (units100 hX)
      have q2 := op_rCmp h2 hX.prog hX.w hX.K (units100 hX)
      exact ⟨PE.weak (pe_chain q1 q2 (snd L a hW h4 hX).pe (snd L b hW h5 hX).pe (snd L c hW h6 hX).pe (bnot h3)) fun σ H Q w => cch_E w,
        PT.weak (pt_chain q1 q2 (snd L a hW h4 hX).pe (snd L b hW h5 hX).pe (snd L c hW h6 hX).pe (bnot h3)) fun σ H Q w => cch_E (tE_bl w), fun z => by cases z⟩
    · cases h
  | .lrng1 a, cc, hW, scp, E, X, e, h, hX => by
    unfold chkE at h
    split at h
    · obtain ⟨h1, h6⟩ := bex h
      obtain ⟨h1, h5⟩ := bex h1
      obtain ⟨h1, h4⟩ := bex h1
      obtain ⟨h1, h3⟩ := bex h1
      obtain ⟨h1, h2⟩ := bex h1
      obtain ⟨g1, g2, _, _⟩ := bl_of hX hW h2
      obtain ⟨k1, k2, _, _⟩ := bl_of hX hW h4
      have := of_decide_eq_true h1; subst this
      have := of_decide_eq_true h3; subst this
      refine .plain (PE.weak (pe_listRg hX.calm g1 g2 (prg_1 k1 k2 (snd L a hW h6 hX).pe (star_cons (bnot h5)))) fun σ H Q w => ?_) rfl
      obtain ⟨m, ρ, st, s, r, p⟩ := w
      rw [ev] at p
      refine ⟨m, ρ, st, s, r, p.bind.imp fun d m1 st1 H1 e1 s1 p1 v rv => ?_⟩
      obtain ⟨i, rfl, p2⟩ := p1.iOf
      obtain ⟨c, p2⟩ := p2.ite
      rw [Rp] at rv; subst rv
      refine ⟨i, rfl, .of_le (by decide) (by omega) (by decide) c.1, fun q hq => new_lst s1 hq ?_ p2⟩
      have := rg_rel (K := W.K) (H := H1) (m := m1) 0 i
      rw [Int.sub_zero] at this
      exact this
    · cases h
  | .lrng2 a b, cc, hW, scp, E, X, e, h, hX => by
    unfold chkE at h
    split at h
    · obtain ⟨h1, h8⟩ := bex h
      obtain ⟨h1, h7⟩ := bex h1
      obtain ⟨h1, h6⟩ := bex h1
      obtain ⟨h1, h5⟩ := bex h1
      obtain ⟨h1, h4⟩ := bex h1
      obtain ⟨h1, h3⟩ := bex h1
      obtain ⟨h1, h2⟩ := bex h1
      obtain ⟨g1, g2, _, _⟩ := bl_of hX hW h2
      obtain ⟨k1, k2, _, _⟩ := bl_of hX hW h4
      have := of_decide_eq_true h1; subst this
      have := of_decide_eq_true h3; subst this
      refine .plain (PE.weak (pe_listRg hX.calm g1 g2 (prg_2 k1 k2 (snd L a hW h7 hX).pe (snd L b hW h8 hX).pe (by rw [star_cons (bnot h5), star_cons (bnot h6)]) (star_cons (bnot h6)) (by rw [star_cons (bnot h6)]; rfl))) fun σ H Q w => ?_) rfl
      obtain ⟨m, ρ, st, s, r, p⟩ := w
      rw [ev] at p
      refine ⟨m, ρ, st, s, r, p.bind.imp fun d m1 st1 H1 e1 s1 p1 v rv => ?_⟩
      refine ⟨m1, ρ, st1, s1, r.up s e1, p1.bind.imp fun d2 m2 st2 H2 e2 s2 p2 u ru => ?_⟩
      obtain ⟨i, rfl, p3⟩ := p2.iOf
      obtain ⟨j, rfl, p4⟩ := p3.iOf
      obtain ⟨c, p5⟩ := p4.ite
      rw [Rp] at rv ru; subst rv ru
      exact ⟨i, j, rfl, rfl, .of_le c.1 (by omega) (by omega) c.2.2.1, fun q hq => new_lst s2 hq (rg_rel i j) p5⟩
    · cases h
  | .told a, cc, hW, scp, E, X, e, h, hX => by
    unfold chkE at h
    split at h
    · obtain ⟨h1, h6⟩ := bex h
      obtain ⟨h1, h5⟩ := bex h1
      obtain ⟨h1, h4⟩ := bex h1
      obtain ⟨h1, h3⟩ := bex h1
      obtain ⟨h1, h2⟩ := bex h1
      exact .plain (pe_toldE hX hW (of_decide_eq_true h1) h2 h3 h4 h5 fun E' X' hX' => (snd L a hW.nolam h6 hX').pe) rfl
    · cases h
  | .mn2 mx a b, cc, hW, scp, E, X, e, h, hX => by
    unfold chkE at h
    split at h
    · obtain ⟨h1, h6⟩ := bex h
      obtain ⟨h1, h5⟩ := bex h1
      obtain ⟨h1, h4⟩ := bex h1
      obtain ⟨h1, h3⟩ := bex h1
      obtain ⟨h1, h2⟩ := bex h1
      exact .plain (pe_mn2E hX hW (of_decide_eq_true h1) h2 (bnot h3) (bnot h4) (snd L a hW h5 hX).pe (snd L b hW h6 hX).pe) rfl
    · cases h
  | .comp a t own it c, cc, hW, scp, E, X, e, h, hX => by
    unfold chkE at h
    split at h
    · rename_i _ elt tg iter ifs kk scope pos
      obtain ⟨h1, h8⟩ := bex h
      obtain ⟨h1, h7⟩ := bex h1
      obtain ⟨h1, h6⟩ := bex h1
      obtain ⟨h1, h5⟩ := bex h1
      obtain ⟨h1, htg⟩ := bex h1
      obtain ⟨h1, h4⟩ := bex h1
      obtain ⟨h1, h3⟩ := bex h1
      obtain ⟨h1, h2⟩ := bex h1
      have := of_decide_eq_true h1; subst this
      have hown : ∀ i ∈ t.slots, i ∈ own := fun i hi => of_decide_eq_true (List.all_eq_true.mp h3 i hi)
      have hblk := blkOk_by h2
      have e2 : (own.map fun i => (Ns.getD i "", i)).map (·.2) = own := by rw [List.map_map]; exact (List.map_congr_left fun _ _ => rfl).trans (List.map_id _)
      have q := pe_lc (X := X) (elt := elt) (tg := tg) (iter := iter) (ifs := ifs) (scope := scope) (pos := pos) (wi := tI W E (evI (W.cl k) it)) (g := gIT W.K t) (tt := tT W E0 (evC (W.cl k) c)) (te := tE W E0 (ev (W.cl k) a)) (own := own.map fun i => (Ns.getD i "", i)) hX.calm (by rw [hX.N]; exact hX.nd) (sndI L it hW h5 htg hX) (by rw [hX.N, hX.sc]; exact hblk)
        (fun s H C cl fp => by
          have z := pg_IT (hX.tblk s H C cl fp) h4
          have ek : (X.blk s H scope (compEnvC scope cl C X.env) fp).K = W.K := hX.K
          rw [ek] at z
          exact z)
        (fun s H C cl fp => sndC L c hW h7 (hX.blk s H C cl fp)) (fun s H C cl fp => (snd L a hW h8 (hX.blk s H C cl fp)).pe) (foldSet_of (bnot h6))
      rw [e2] at q
      refine .plain (PE.weak q fun σ H Q w => comp_E hown w) rfl
    · cases h
theorem sndEs (L : Lv W k) : ∀ (a : IEs) {cc : CC} (hW : WOk W cc) {scp : Scope} {E : XK} {X : Cx} {e : List Expr}, chkEs cc Ns scp a e = true → XOk W cc Ns scp k E X → PA X e (tA W E (evs (W.cl k) a))
  | .nil, cc, hW, scp, E, X, e, h, hX => by
    unfold chkEs at h
    split at h
    · exact PA.of_nil rfl
    · cases h
  | .cons a r, cc, hW, scp, E, X, e, h, hX => by
    unfold chkEs at h
    split at h
    · obtain ⟨h1, h3⟩ := bex h
      obtain ⟨h1, h2⟩ := bex h1
      exact PA.weak (pa_cons (snd L a hW h2 hX).pe (sndEs L r hW h3 hX) (star_cons (bnot h1))) fun σ H Q w => evs_cons w
    · cases h
theorem sndO (L : Lv W k) : ∀ (a : IO) {cc : CC} (hW : WOk W cc) {scp : Scope} {E : XK} {X : Cx} {e : Option Expr}, chkO cc Ns scp a e = true → XOk W cc Ns scp k E X → PO X e (tO W E (evO (W.cl k) a))
  | .none, cc, hW, scp, E, X, e, h, hX => by
    unfold chkO at h
    split at h
    · refine PO.weak po_none fun σ H Q w => ?_
      obtain ⟨m, ρ, st, s, r, p⟩ := w
      rw [evO] at p
      exact p.now s
    · cases h
  | .some a, cc, hW, scp, E, X, e, h, hX => by
    unfold chkO at h
    split at h
    · refine PO.weak (po_some (snd L a hW h hX).pe) fun σ H Q w => ?_
      obtain ⟨m, ρ, st, s, r, p⟩ := w
      rw [evO] at p
      refine ⟨m, ρ, st, s, r, p.bind.imp fun d m1 st1 H1 e1 s1 p1 v rv => ?_⟩
      obtain ⟨i, rfl, p2⟩ := p1.iOf
      rw [Rp] at rv; subst rv
      exact ⟨i, rfl, p2.now s1⟩
    · cases h
theorem sndC (L : Lv W k) : ∀ (a : IO) {cc : CC} (hW : WOk W cc) {scp : Scope} {E : XK} {X : Cx} {e : List Expr}, chkC cc Ns scp a e = true → XOk W cc Ns scp k E X → PTs X e (tT W E (evC (W.cl k) a))
  | .none, cc, hW, scp, E, X, e, h, hX => by
    unfold chkC at h
    split at h
    · refine ⟨fun pins s σ H Q I w => pts_nil.run pins s σ H Q I ?_⟩
      obtain ⟨m, ρ, st, s, r, p⟩ := w
      rw [evC] at p
      exact p.now s
    · cases h
  | .some a, cc, hW, scp, E, X, e, h, hX => by
    unfold chkC at h
    split at h
    · refine ⟨fun pins s σ H Q I w => (pts_one (snd L a hW h hX).pt).run pins s σ H Q I ?_⟩
      obtain ⟨m, ρ, st, s, r, p⟩ := w
      rw [evC] at p
      exact ⟨m, ρ, st, s, r, p⟩
    · cases h
theorem sndI (L : Lv W k) : ∀ (a : II) {cc : CC} (hW : WOk W cc) {scp : Scope} {E : XK} {X : Cx} {tg e : Expr}, chkI cc Ns scp a e = true → tgOk a tg = true → XOk W cc Ns scp k E X → PI X tg e (tI W E (evI (W.cl k) a))
  | .enum a, cc, hW, scp, E, X, tg, e, h, ht, hX => by
    unfold chkI at h
    cases tg with
    | Tuple elts kk tpos =>
      split at h
      · obtain ⟨h1, h4⟩ := bex h
        obtain ⟨h1, h3⟩ := bex h1
        obtain ⟨h1, h2⟩ := bex h1
        exact pi_enumE hX hW (of_decide_eq_true h1) h2 (bnot h3) (snd L a hW h4 hX).pe
      · cases h
    | _ => exact absurd ht (by simp [tgOk])
  | .it a, cc, hW, scp, E, X, tg, e, h, _, hX => by
    unfold chkI at h
    exact pi_itE hX.K (snd L a hW h hX).pe
  | .rng1 a, cc, hW, scp, E, X, tg, e, h, _, hX => by
    unfold chkI at h
    split at h
    · obtain ⟨h1, h4⟩ := bex h
      obtain ⟨h1, h3⟩ := bex h1
      obtain ⟨h1, h2⟩ := bex h1
      exact pi_rng1E hX hW (of_decide_eq_true h1) h2 (bnot h3) (snd L a hW h4 hX).pe
    · cases h
  | .rng2 a b, cc, hW, scp, E, X, tg, e, h, _, hX => by
    unfold chkI at h
    split at h
    · obtain ⟨h1, h6⟩ := bex h
      obtain ⟨h1, h5⟩ := bex h1
      obtain ⟨h1, h4⟩ := bex h1
      obtain ⟨h1, h3⟩ := bex h1
      obtain ⟨h1, h2⟩ := bex h1
      exact pi_rng2E hX hW (of_decide_eq_true h1) h2 (bnot h3) (bnot h4) (snd L a hW h5 hX).pe (snd L b hW h6 hX).pe
    · cases h
end
end
end Z
namespace Z
open PySem L2
/-! ### statements -/
def PgS (W : Wd) (E : XK) (m : List Addr) (H : Hp) (r : SR) (D : Ends) : Prop := match r with
  | .ok .nx ρ st => ∀ σ' H' m', Ext m m' H H' → Sim W H' m' st → EnvR W H' m' ρ σ' → D.nx σ' H'
  | .ok .bk ρ st => ∀ σ' H' m', Ext m m' H H' → Sim W H' m' st → EnvR W H' m' ρ σ' → D.bk σ' H'
  | .ok .ct ρ st => ∀ σ' H' m', Ext m m' H H' → Sim W H' m' st → EnvR W H' m' ρ σ' → D.ct σ' H'
  | .ok (.rt d) _ st => ∀ v H' m', Ext m m' H H' → Sim W H' m' st → Rp W.K H' m' d v → D.rt v H'
  | .exc e _ st => ∀ dx H' m', Ext m m' H H' → Sim W H' m' st → ExR W H' m' e dx → E (.ref (W.ca e.c)) dx H'
  | .stuck => False
def tS (W : Wd) (E : XK) (f : Env → Sto → SR) : TS := fun D σ H => ∃ m ρ st, Sim W H m st ∧ EnvR W H m ρ σ ∧ PgS W E m H (f ρ st) D
section
variable {W : Wd} {E : XK} {m m' : List Addr} {H H' : Hp} {α : Type} {D : Ends}
theorem PgS.up {r : SR} (e : Ext m m' H H') (h : PgS W E m H r D) : PgS W E m' H' r D := by
  cases r with
  | ok f ρ st => cases f with
    | nx => exact fun σ2 H2 m2 e2 => h σ2 H2 m2 (e.trans e2)
    | bk => exact fun σ2 H2 m2 e2 => h σ2 H2 m2 (e.trans e2)
    | ct => exact fun σ2 H2 m2 e2 => h σ2 H2 m2 (e.trans e2)
    | rt d => exact fun v H2 m2 e2 => h v H2 m2 (e.trans e2)
  | exc x ρ st => exact fun dx H2 m2 e2 => h dx H2 m2 (e.trans e2)
  | stuck => exact h
theorem PgS.sbind {r : R α} {ρ : Env} {f : α → Sto → SR} (h : PgS W E m H (r.sbind ρ f) D) : Pg W E m H r fun a m' st' H' => PgS W E m' H' (f a st') D := by
  cases r with
  | ok a st => exact fun H2 m2 e2 s2 => PgS.up e2 h
  | exc x st => exact h
  | stuck => exact h
/-- behind a statement -/
def kNx (W : Wd) (E : XK) (m : List Addr) (H : Hp) (f : Env → Sto → SR) (D : Ends) : L2.St → Hp → Prop := fun σ' H' => ∃ m' ρ' st', Ext m m' H H' ∧ Sim W H' m' st' ∧ EnvR W H' m' ρ' σ' ∧ PgS W E m' H' (f ρ' st') D
theorem PgS.then {r : SR} {f : Env → Sto → SR} (h : PgS W E m H (r.then f) D) : PgS W E m H r { D with nx := kNx W E m H f D } := by
  cases r with
  | ok g ρ st => cases g with
    | nx => exact fun σ2 H2 m2 e2 s2 r2 => ⟨m2, ρ, st, e2, s2, r2, PgS.up e2 h⟩
    | bk => exact h
    | ct => exact h
    | rt d => exact h
  | exc x ρ st => exact h
  | stuck => exact h
theorem PgS.noex {r : SR} (h : PgS W E m H r.noex D) : PgS W (fun _ _ _ => False) m H r D := by
  cases r with
  | ok g ρ st => cases g <;> exact h
  | exc x ρ st => exact h.elim
  | stuck => exact h
theorem PgS.turn {r : SR} {f : Env → Sto → SR} (h : PgS W E m H (r.turn f) D) : PgS W E m H r { D with nx := kNx W E m H f D, ct := kNx W E m H f D, bk := D.nx } := by
  cases r with
  | ok g ρ st => cases g with
    | nx => exact fun σ2 H2 m2 e2 s2 r2 => ⟨m2, ρ, st, e2, s2, r2, PgS.up e2 h⟩
    | bk => exact h
    | ct => exact fun σ2 H2 m2 e2 s2 r2 => ⟨m2, ρ, st, e2, s2, r2, PgS.up e2 h⟩
    | rt d => exact h
  | exc x ρ st => exact h
  | stuck => exact h
theorem PgS.turn' {r : SR} {f : Env → Sto → SR} {H0 : Hp} {m0 : List Addr} (e : Ext m0 m H0 H) (h : PgS W E m0 H0 (r.turn f) D) : PgS W E m H r { D with nx := kNx W E m0 H0 f D, ct := kNx W E m0 H0 f D, bk := D.nx } := PgS.up e (PgS.turn h)
theorem PgS.ite {c : Prop} [Decidable c] {a : SR} (h : PgS W E m H (if c then a else .stuck) D) : c ∧ PgS W E m H a D := by
  by_cases hc : c
  · rw [if_pos hc] at h; exact ⟨hc, h⟩
  · rw [if_neg hc] at h; exact h.elim
end
section
variable {W : Wd} {cc : CC} {Ns : List Str} {scp : Scope} {k : Nat} {E : XK} {X : Cx} {C : Cl} {F : Nat} {D : Ends} {σ : L2.St} {H : Hp}
theorem asg_S {t : IT} {e : IE} (h : tS W E (evS C F (.asg t e)) D σ H) : tAsg (tE W E (ev C e)) (gIT W.K t) D σ H := by
  obtain ⟨m, ρ, st, s, r, p⟩ := h
  rw [evS] at p
  refine ⟨m, ρ, st, s, r, p.sbind.imp fun d m1 st1 H1 e1 s1 p1 v rv => ?_⟩
  split at p1
  · rename_i ρ' hρ
    exact gIT_ok rv (r.up s e1) hρ fun σ' r' _ => p1 σ' H1 m1 Ext.refl s1 r'
  · exact p1.elim
theorem setf_S (hW : WOk W cc) {a e : IE} {f : Str} (hf : f ∈ cc.flds) (h : tS W E (evS C F (.setf a f e)) D σ H) : sFld W.K (tE W E (ev C a)) (tE W E (ev C e)) f D σ H := by
  obtain ⟨m, ρ, st, s, r, p⟩ := h
  rw [evS] at p
  refine ⟨m, ρ, st, s, r, p.sbind.imp fun y m1 st1 H1 e1 s1 p1 vy ry => ?_⟩
  have r1 := r.up s e1
  refine ⟨m1, ρ, st1, s1, r1, p1.sbind.imp fun x m2 st2 H2 e2 s2 p2 vx rx => ?_⟩
  have r2 := r1.up s1 e2
  have ry := ry.up s1 e2
  cases x with
  | loc n =>
    simp only at p2
    split at p2
    · rename_i c fs hc
      obtain ⟨hlen, p2⟩ := p2.ite
      obtain ⟨ad, had, dx, gs, hcl, h1, h2⟩ := s2.at hc
      rw [Rp] at rx
      obtain ⟨a', ha', rfl⟩ := rx
      rw [had] at ha'; cases ha'
      have hl : gs.length = fs.length := by have := congrArg List.length h2.1; simpa using this
      refine ⟨ad, W.ca c, dx, gs, rfl, h1, hW.cls c hcl, hW.nf c f hcl hf, by omega, ?_⟩
      have e0 : Ext m2 m2 H2 (upd H2 ad (.ins (W.ca c) dx (putF f vy gs))) := ⟨⟨[], by simp⟩, fun b u h _ nn => ⟨by
        rw [upd_ne fun z => nn (by rw [z]; exact List.mem_of_getElem? had)]; exact h, nn⟩⟩
      obtain ⟨s3, e3⟩ := s2.write had (o := .ins (W.ca c) dx (putF f vy gs)) (c := .ins c (putF' f y fs)) ⟨dx, _, hcl, upd_same, (h2.up s2 e0).put (ry.up s2 e0)⟩
      exact p2 σ _ m2 e3 s3 (r2.up s2 e3)
    · exact p2.elim
  | _ => exact p2.elim
def rDkSet : TSet := fun o i v H Q => ∃ a H', o = .ref a ∧ DPut H a i v H' ∧ Q H'
theorem set_dk (hu : X.A.units + 1 < cLine) : PSet X rDkSet := by
  intro pins s σ H o i v ov iv u Q I ro ri rv h
  obtain ⟨a, H', rfl, g, q⟩ := h
  obtain rfl : ov = Value.ref a := ro
  exact d_setItem hu I g ri rv fun s' I' => ⟨H', I', q⟩
def rSetA (W : Wd) : TSet := fun o i v H Q => rSetL o i v H Q ∨ (rNdSet W.P W.w W.K o i v H Q ∨ rDkSet o i v H Q)
theorem set_A (hP : X.prog = W.P) (hw : X.w = W.w) (hK : X.K = W.K) (hu : X.A.units + 100 < cLine) : PSet X (rSetA W) := by
  intro pins s σ H o i v ov iv u Q I ro ri rv h
  rcases h with h | h | h
  · exact set_list pins s σ H o i v ov iv u Q I ro ri rv h
  · exact set_nd (by omega) pins s σ H o i v ov iv u Q I ro ri rv (by rw [hP, hw, hK]; exact h)
  · exact set_dk (by omega) pins s σ H o i v ov iv u Q I ro ri rv h
theorem chg_dk {m : List Addr} {st : Sto} {ρ : Env} {n : Nat} {k d : Z.D} {vo vk v : V} {kvs : List (Z.D × Z.D)} (s : Sim W H m st) (r : EnvR W H m ρ σ) (ro : Rp W.K H m (.loc n) vo) (rk : Rp W.K H m k vk) (rd : Rp W.K H m d v) (hx : st[n]? = some (.dck kvs)) (hk : keyK k = true) (hl : kvs.length < LIM)
    (p : PgS W E m H (.ok .nx ρ (st.set n (.dck (dPut kvs k d)))) D) : rDkSet vo vk v H (fun H' => D.nx σ H') := by
  obtain ⟨a, rfl, ha, xs, h1, h2⟩ := loc_at s ro hx
  obtain ⟨ky, g1⟩ := keyK_ok hk
  have := kyD_v g1 rk; subst this
  refine ⟨a, _, rfl, DPut.k h1 (by rw [h2.len]; exact lim_lt hl), ?_⟩
  have e0 : Ext m m H (upd H a (.dK (putK xs ky v))) := ⟨⟨[], by simp⟩, fun c u h _ nn => ⟨by
    rw [upd_ne fun z => nn (by rw [z]; exact List.mem_of_getElem? ha)]; exact h, nn⟩⟩
  obtain ⟨s4, e4⟩ := s.write ha (o := .dK (putK xs ky v)) (c := .dck (dPut kvs k d)) ⟨_, upd_same, (h2.up s e0).put g1 (rd.up s e0)⟩
  exact p σ _ m e4 s4 (r.up s e4)
theorem chg_dt {m : List Addr} {st : Sto} {ρ : Env} {n : Nat} {k d : Z.D} {vo vk v : V} {kvs : List (Z.D × Z.D)} (s : Sim W H m st) (r : EnvR W H m ρ σ) (ro : Rp W.K H m (.loc n) vo) (rk : Rp W.K H m k vk) (rd : Rp W.K H m d v) (hx : st[n]? = some (.dct kvs)) (hk : keyT k = true) (hl : kvs.length < LIM)
    (p : PgS W E m H (.ok .nx ρ (st.set n (.dct (dPut kvs k d)))) D) : rNdSet W.P W.w W.K vo vk v H (fun H' => D.nx σ H') := by
  obtain ⟨a, rfl, ha, xs, h1, h2⟩ := loc_at s ro hx
  obtain ⟨b, nk, rfl, g1, g2, g3⟩ := keyT_ok hk rk
  refine ⟨a, b, xs, nk, rfl, rfl, h1, h2.keys, g3, g2, by rw [h2.len]; exact lim_lt hl, fun u ru => ?_⟩
  have e0 : Ext m m H (upd H a (NdO W.P W.w a (storedH xs nk b u))) := ⟨⟨[], by simp⟩, fun c u h _ nn => ⟨by
    rw [upd_ne fun z => nn (by rw [z]; exact List.mem_of_getElem? ha)]; exact h, nn⟩⟩
  obtain ⟨s4, e4⟩ := s.write ha (o := NdO W.P W.w a (storedH xs nk b u)) (c := .dct (dPut kvs k d)) ⟨_, upd_same, (h2.up s e0).put g1 g2 (rk.up s e0) ru (rd.up s e0)⟩
  exact p σ _ m e4 s4 (r.up s e4)
theorem seti_S {a i e : IE} (h : tS W E (evS C F (.seti a i e)) D σ H) : tAsg (tE W E (ev C e)) (gSub (tE W E (ev C a)) (tE W E (ev C i)) (rSetA W)) D σ H := by
  obtain ⟨m, ρ, st, s, r, p⟩ := h
  rw [evS] at p
  refine ⟨m, ρ, st, s, r, p.sbind.imp fun y m1 st1 H1 e1 s1 p1 vy ry => ?_⟩
  have r1 := r.up s e1
  refine ⟨m1, ρ, st1, s1, r1, p1.sbind.imp fun x m2 st2 H2 e2 s2 p2 vx rx => ?_⟩
  have r2 := r1.up s1 e2
  refine ⟨m2, ρ, st2, s2, r2, p2.sbind.imp fun z m3 st3 H3 e3 s3 p3 vz rz => ?_⟩
  have r3 := r2.up s2 e3
  have rx := rx.up s2 e3
  have ry := (ry.up s1 e2).up s2 e3
  split at p3
  · skip
    split at p3
    · rename_i xs hx
      split at p3
      · rename_i j hj
        obtain ⟨b, vs, rfl, hb, h1, h2⟩ := list_at s3 rx hx
        rw [Rp] at rz; subst rz
        refine .inl ⟨b, vs, _, j, rfl, rfl, h1, by rw [h2.len]; exact hj, ?_⟩
        have e0 : Ext m3 m3 H3 (upd H3 b (.lst (vs.set j vy))) := ⟨⟨[], by simp⟩, fun c u h _ nn => ⟨by
          rw [upd_ne fun z => nn (by rw [z]; exact List.mem_of_getElem? hb)]; exact h, nn⟩⟩
        obtain ⟨s4, e4⟩ := s3.write hb (o := .lst (vs.set j vy)) (c := .lst (xs.set j y)) ⟨_, upd_same, (h2.up s3 e0).set (ry.up s3 e0) j⟩
        exact p3 σ _ m3 e4 s4 (r3.up s3 e4)
      · exact p3.elim
    · rename_i kvs hx
      obtain ⟨c, p3⟩ := p3.ite
      exact .inr (.inr (chg_dk s3 r3 rx rz ry hx rfl c p3))
    · exact p3.elim
  · split at p3
    · rename_i kvs hx
      obtain ⟨c, p3⟩ := p3.ite
      exact .inr (.inr (chg_dk s3 r3 rx rz ry hx rfl c p3))
    · exact p3.elim
  · split at p3
    · rename_i kvs hx
      obtain ⟨c, p3⟩ := p3.ite
      exact .inr (.inl (chg_dt s3 r3 rx rz ry hx c.1 c.2 p3))
    · exact p3.elim
  · exact p3.elim
theorem expr_S {e : IE} (h : tS W E (evS C F (.expr e)) D σ H) : tDrop (tE W E (ev C e)) D σ H := by
  obtain ⟨m, ρ, st, s, r, p⟩ := h
  rw [evS] at p
  exact ⟨m, ρ, st, s, r, p.sbind.imp fun d m1 st1 H1 e1 s1 p1 v rv => p1 σ H1 m1 Ext.refl s1 (r.up s e1)⟩
theorem ret_S {e : IE} (h : tS W E (evS C F (.ret e)) D σ H) : tRet (tE W E (ev C e)) D σ H := by
  obtain ⟨m, ρ, st, s, r, p⟩ := h
  rw [evS] at p
  exact ⟨m, ρ, st, s, r, p.sbind.imp fun d m1 st1 H1 e1 s1 p1 v rv => p1 v H1 m1 Ext.refl s1 rv⟩
theorem tryN_S {b : ISs} (h : tS W E (evS C F (.tryN b)) D σ H) : tS W E0 (evSs C F b) D σ H := by
  obtain ⟨m, ρ, st, s, r, p⟩ := h
  rw [evS] at p
  exact ⟨m, ρ, st, s, r, p.noex⟩
theorem ite_S {c : IE} {a b : ISs} (h : tS W E (evS C F (.ite c a b)) D σ H) : tIfS (tT W E (evT C c)) (tS W E (evSs C F a)) (tS W E (evSs C F b)) D σ H := by
  obtain ⟨m, ρ, st, s, r, p⟩ := h
  rw [evS] at p
  refine ⟨m, ρ, st, s, r, p.sbind.imp fun k m1 st1 H1 e1 s1 p1 => ?_⟩
  cases k with
  | true => exact iteT ⟨m1, ρ, st1, s1, r.up s e1, p1⟩
  | false => exact iteF ⟨m1, ρ, st1, s1, r.up s e1, p1⟩
theorem whl_S {c : IE} {b : ISs} (h : tS W E (evS C F (.whl c b)) D σ H) : tWhile (tT W E (evT C c)) (tS W E (evSs C F b)) D σ H := by
  obtain ⟨m, ρ, st, s, r, p⟩ := h
  rw [evS] at p
  refine ⟨fun n σ H => ∃ m ρ st, Sim W H m st ∧ EnvR W H m ρ σ ∧ PgS W E m H (loopW (evT C c) (evSs C F b) n ρ st) D, ⟨F, m, ρ, st, s, r, p⟩, ?_⟩
  rintro n σ H ⟨m, ρ, st, s, r, p⟩
  cases n with
  | zero => exact p.elim
  | succ n =>
    rw [loopW] at p
    refine ⟨m, ρ, st, s, r, p.sbind.imp fun k m1 st1 H1 e1 s1 p1 => ?_⟩
    have r1 := r.up s e1
    cases k with
    | true =>
      refine iteT ⟨kNx W E m1 H1 (loopW (evT C c) (evSs C F b) n) D, fun σ' H' ⟨m', ρ', st', _, s', r', p'⟩ => ⟨n, Nat.lt_succ_self n, m', ρ', st', s', r', p'⟩, m1, ρ, st1, s1, r1, ?_⟩
      rw [if_pos rfl] at p1
      exact p1.turn
    | false =>
      rw [if_neg Bool.false_ne_true] at p1
      exact iteF (p1 σ H1 m1 Ext.refl s1 r1)
theorem for_S {t : IT} {it : II} {b : ISs} (h : tS W E (evS C F (.for_ t it b)) D σ H) : tFor (tI W E (evI C it)) (gIT W.K t) (tS W E (evSs C F b)) D σ H := by
  obtain ⟨m, ρ, st, s, r, p⟩ := h
  rw [evS] at p
  refine ⟨m, ρ, st, s, r, p.sbind.imp fun w m1 st1 H1 e1 s1 p1 J hJ => ?_⟩
  have r1 := r.up s e1
  refine ⟨fun i mm σ H => mm = w.xs.length - i ∧ i ≤ w.xs.length ∧ ∃ m ρ st, Ext m1 m H1 H ∧ Sim W H m st ∧ EnvR W H m ρ σ ∧ PgS W E m H (loopF w t (evSs C F b) (w.xs.drop i) ρ st) D,
    ⟨w.xs.length, by simp, Nat.zero_le _, m1, ρ, st1, Ext.refl, s1, r1, by simpa using p1⟩, ?_⟩
  rintro i mm σ H2 ⟨rfl, hi, m2, ρ2, st2, e2, s2, r2, p2⟩
  by_cases hlt : i < w.xs.length
  · right
    rw [List.drop_eq_getElem_cons hlt] at p2
    unfold loopF at p2
    obtain ⟨hst, p2⟩ := p2.ite
    obtain ⟨w1, w2⟩ := hJ H2 m2 st2 e2 s2 hst i
    obtain ⟨g1, g2⟩ := w1 _ (List.getElem?_eq_getElem hlt)
    refine ⟨g1, kNx W E m2 H2 (loopF w t (evSs C F b) (w.xs.drop (i + 1))) D, fun σ' H' ⟨m', ρ', st', e', s', r', p'⟩ => ⟨w.xs.length - (i + 1), by omega, rfl, hlt, m', ρ', st', e2.trans e', s', r', p'⟩, fun x H' hy => ?_⟩
    obtain ⟨ey, sy, rx⟩ := g2 x H' hy
    split at p2
    · rename_i ρ' hρ
      exact gIT_ok rx (r2.up s2 ey) hρ fun σ' r' _ => ⟨m2, ρ', st2, sy, r', PgS.turn' ey p2⟩
    · exact p2.elim
  · left
    have hi' : i = w.xs.length := by omega
    subst hi'
    rw [List.drop_length] at p2
    unfold loopF at p2
    obtain ⟨hst, p2⟩ := p2.ite
    exact ⟨(hJ H2 m2 st2 e2 s2 hst _).2 (Nat.le_refl _), p2 σ H2 m2 Ext.refl s2 r2⟩

/-! ### blocks -/
structure SOk (W : Wd) (cc : CC) (Ns : List Str) (scp : Scope) (k : Nat) (E : XK) (X : Cx) : Prop extends XOk W cc Ns scp k E X where
  fn : X.fn = fun _ => true
  kd : scp.kind = .function
  own : PassesOwn (model X.prog X.w) X.A X.env X.xe
  tk : Takes X (fun cls d _ H' => E cls d H')
theorem SOk.t (h : SOk W cc Ns scp k E X) : TOk Ns scp (fun _ => true) X := ⟨h.N, h.nd, h.sc, h.fn, h.calm⟩
theorem sw_plain {v : Expr} {t : Option Expr} {l : Nat} {env : PySem.Env} (h : isComp v = false) : swapsWith v t l env = pure false := by
  cases v <;> first | rfl | cases h
theorem sw_attr {v o : Expr} {f : Str} {p : Pos} {l : Nat} {env : PySem.Env} : swapsWith v (some (.Attribute o f p)) l env = pure false := by
  cases v <;> rfl
theorem sw_sub {v o i : Expr} {p : Pos} {l : Nat} {env : PySem.Env} : swapsWith v (some (.Subscript o i p)) l env = pure false := by
  cases v <;> rfl
theorem swap_none {tg v : Expr} {env : PySem.Env} (h : bothTup tg v = false) (ht : ∀ es p, tg ≠ .List es p) : swappedStores [tg] v env = pure none := by
  cases tg with
  | List es p => exact absurd rfl (ht es p)
  | Tuple ts k p => cases v <;> first | rfl | cases h
  | _ => rfl
theorem sub_store {o i : Expr} {pos : Pos} {env : PySem.Env} (h : isSlice i = false) : ∀ v, assign (.Subscript o i pos) env v = (do
      let ov ← holding [v] (eval o env)
      let iv ← holding [v, ov] (eval i env)
      standAt pos
      holding [v, ov, iv] (setItem ov iv v)
      release [v, ov, iv] []) := by
  intro v
  cases i <;> first | rfl | cases h
end
end Z
namespace Z
open PySem L2
section
variable {W : Wd} {cc : CC} {Ns : List Str} {k : Nat}
/-- name = [.. for ..] -/
theorem set_comp (hW : WOk W cc) (L : Lv W k) {scp : Scope} {E : XK} {X : Cx} {e : IE} {elt : Expr} {gs : List Comprehension} {scope : Scope} {pos py spos : Pos} {y : Str} {i : Nat} (hX : SOk W cc Ns scp k E X)
    (h : chkE cc Ns scp e (.ListComp elt gs scope pos) = true) (hi : Ns[i]? = some y) (hl : scp.names.lookup y = some .local) (hline : (py.line == pos.line) = true) (hno : (scope.names.any fun (n, k) => n == y && (k == .local || k == .cell)) = false) :
    PS X (.Assign [.Name y py] (.ListComp elt gs scope pos) spos) (tAsg (tE W E (ev (W.cl k) e)) (gName i)) := by
  cases e with
  | comp a t own it c =>
    unfold chkE at h
    split at h
    · rename_i x elt tg iter ifs kk scope pos ee
      injection ee with ee1 ee2 ee3 ee4
      subst ee1 ee2 ee3 ee4
      obtain ⟨h1, h8⟩ := bex h
      obtain ⟨h1, h7⟩ := bex h1
      obtain ⟨h1, h6⟩ := bex h1
      obtain ⟨h1, h5⟩ := bex h1
      obtain ⟨h1, htg⟩ := bex h1
      obtain ⟨h1, h4⟩ := bex h1
      obtain ⟨h1, h3⟩ := bex h1
      obtain ⟨h1, h2⟩ := bex h1
      have := of_decide_eq_true h1; subst this
      have hX' := hX.toXOk
      have hown : ∀ i ∈ t.slots, i ∈ own := fun i hi => of_decide_eq_true (List.all_eq_true.mp h3 i hi)
      have hblk := blkOk_by h2
      have e2 : (own.map fun i => (Ns.getD i "", i)).map (·.2) = own := by rw [List.map_map]; exact (List.map_congr_left fun _ _ => rfl).trans (List.map_id _)
      have q := ps_setLc (X := X) (i := i) (y := y) (py := py) (spos := spos) (elt := elt) (tg := tg) (iter := iter) (ifs := ifs) (scope := scope) (pos := pos) (wi := tI W E (evI (W.cl k) it)) (g := gIT W.K t) (tt := tT W E0 (evC (W.cl k) c)) (te := tE W E0 (ev (W.cl k) a)) (own := own.map fun i => (Ns.getD i "", i)) hX.calm (by rw [hX.N]; exact hX.nd)
        (by rw [hX.N]; exact hi) (by rw [hX.sc]; exact hl) (sw_true (by rw [hX.sc]; exact hX.kd) (by rw [hX.sc]; exact hl) hline hno) (sndI L it hW h5 htg hX') (by rw [hX.N, hX.sc]; exact hblk)
        (fun s H C cl fp => by
          have z := pg_IT (hX'.tblk s H C cl fp) h4
          have ek : (X.blk s H scope (compEnvC scope cl C X.env) fp).K = W.K := hX.K
          rw [ek] at z
          exact z)
        (fun s H C cl fp => sndC L c hW h7 (hX'.blk s H C cl fp)) (fun s H C cl fp => (snd L a hW h8 (hX'.blk s H C cl fp)).pe) (foldSet_of (bnot h6))
      rw [e2] at q
      exact PS.weak q fun D σ H w => comp_E hown w
    · cases h
  | _ => unfold chkE at h; first | (cases h; done) | (simp at h; done)
theorem rais0_S {c : Nat} {D : Ends} {σ : L2.St} {H : Hp} {E : XK} (h : tS W E (evS (W.cl k) W.F (.rais0 c)) D σ H) : E (.ref (W.ca c)) none H := by
  obtain ⟨m, ρ, st, s, r, p⟩ := h
  rw [evS] at p
  exact p none H m Ext.refl s rfl
theorem rais1_S {c : Nat} {f : Str} {e : IE} {D : Ends} {σ : L2.St} {H : Hp} {E : XK} (h : tS W E (evS (W.cl k) W.F (.rais1 c f e)) D σ H) : tMkO (W.ca c) (spI (W.ca c) f) [] (tCons (tE W E (ev (W.cl k) e)) tNil) σ H E := by
  obtain ⟨m, ρ, st, s, r, p⟩ := h
  rw [evS] at p
  refine ⟨m, ρ, st, s, r, p.sbind.imp fun d m1 st1 H1 e1 s1 p1 v rv => ⟨by simp, fun a ha => ?_⟩⟩
  refine ⟨a, v, rfl, upd_same, fun dx hdx hne => ⟨rfl, dx, [(f, v)], upd_same, by rw [upd_ne hne, upd_same], by rw [upd_ne hne] at hdx; exact hdx, ?_⟩⟩
  rw [upd_ne hne] at hdx
  have e2 : upd (del (upd (upd (upd H1 a (exo a (W.ca c) none)) dx (exd dx [(f, v)])) a (exo a (W.ca c) (some dx))) a) dx (.xd [(f, v)]) = upd H1 dx (.xd [(f, v)]) := by
    funext b
    by_cases hb : b = dx
    · rw [hb, upd_same, upd_same]
    · rw [upd_ne hb, upd_ne hb]
      by_cases ha' : b = a
      · rw [ha', del_same, ha]
      · rw [del_ne ha', upd_ne ha', upd_ne hb, upd_ne ha']
  rw [e2]
  obtain ⟨s2, e3⟩ := s1.laid hdx (.xd [(f, v)])
  exact p1 (some dx) _ m1 e3 s2 ⟨dx, v, rfl, upd_same, rv.up s1 e3⟩
theorem SOk.nox {scp : Scope} {E : XK} {X : Cx} (h : SOk W cc Ns scp k E X) : SOk W cc Ns scp k E0 X.nox :=
  ⟨⟨h.prog, h.w, h.K, h.mg, h.base, h.N, h.nd, h.sc, h.calm, h.room, passL, h.lm⟩, h.fn, h.kd, PassesOwn.never, LamX.takes0⟩
mutual
/-- THE RULE for statements -/
theorem sndS (hW : WOk W cc) (L : Lv W k) : ∀ (a : IS) {scp : Scope} {E : XK} {X : Cx} {s : Stmt}, chkS cc Ns scp a s = true → SOk W cc Ns scp k E X → PS X s (tS W E (evS (W.cl k) W.F a))
  | .asg t e, scp, E, X, s, h, hX => by
    unfold chkS at h
    split at h
    · rename_i tg v pos
      obtain ⟨h1, h4⟩ := bex h
      obtain ⟨h1, h3⟩ := bex h1
      obtain ⟨h1, h2⟩ := bex h1
      have plain : isComp v = false → PS X (.Assign [tg] v pos) (tS W E (evS (W.cl k) W.F (.asg t e))) := fun hv => by
        have z := pg_IT hX.t h3
        rw [hX.K] at z
        have hl : ∀ es p, tg ≠ .List es p := fun es p q => by
          subst q
          unfold chkT at h3
          cases t <;> first | (cases h3; done) | (unfold tgB at h3; cases h3; done)
        have h1' : (assignEach [tg] X.env).map (·.2) = [assign tg X.env] := by
          cases tg <;> first | rfl | (cases t <;> (unfold chkT at h3; first | (cases h3; done) | (unfold tgB at h3; cases h3; done)))
        exact PS.weak (ps_asg (snd L e hW h4 hX.toXOk).pe z (sw_plain hv) (swap_none (bnot h1) hl) h1') fun D σ H w => asg_S w
      unfold setComp at h2
      split at h2
      · obtain ⟨k1, k3⟩ := bex h2
        obtain ⟨k1, k2⟩ := bex k1
        cases t with
        | name i =>
          unfold chkT tgB at h3
          obtain ⟨l1, l2⟩ := bex h3
          exact PS.weak (set_comp hW L hX h4 (of_decide_eq_true l1) (of_decide_eq_true k1) k2 (bnot k3)) fun D σ H w => asg_S w
        | tup is => cases h3
      · exact plain (bnot h2)
    · cases h
  | .setf a f e, scp, E, X, s, h, hX => by
    unfold chkS at h
    split at h
    · obtain ⟨h1, h4⟩ := bex h
      obtain ⟨h1, h3⟩ := bex h1
      obtain ⟨h1, h2⟩ := bex h1
      have := of_decide_eq_true h1; subst this
      refine PS.weak (ps_fld (snd L a hW h3 hX.toXOk).pe (snd L e hW h4 hX.toXOk).pe sw_attr) fun D σ H w => ?_
      rw [hX.K]
      exact setf_S hW (of_decide_eq_true h2) w
    · cases h
  | .seti a i e, scp, E, X, s, h, hX => by
    unfold chkS at h
    split at h
    · obtain ⟨h1, h4⟩ := bex h
      obtain ⟨h1, h3⟩ := bex h1
      obtain ⟨h1, h2⟩ := bex h1
      have hs := bnot h1
      exact PS.weak (ps_asg (snd L e hW h4 hX.toXOk).pe (pg_sub (snd L a hW h2 hX.toXOk).pe (snd L i hW h3 hX.toXOk).pe (set_A hX.prog hX.w hX.K (units100 hX.toXOk)) (sub_store hs)) (by unfold swapsWithSole; exact sw_sub) (by rfl) (by rfl)) fun D σ H w => seti_S w
    · cases h
  | .expr e, scp, E, X, s, h, hX => by
    unfold chkS at h
    split at h
    · obtain ⟨h1, h2⟩ := bex h
      exact PS.weak (ps_expr (snd L e hW h2 hX.toXOk).pe (sw_plain (bnot h1))) fun D σ H w => expr_S w
    · cases h
  | .ret e, scp, E, X, s, h, hX => by
    unfold chkS at h
    split at h
    · exact PS.weak (ps_ret (snd L e hW h hX.toXOk).pe) fun D σ H w => ret_S w
    · cases h
  | .retN, scp, E, X, s, h, hX => by
    unfold chkS at h
    split at h
    · refine PS.weak ps_retN fun D σ H w => ?_
      obtain ⟨m, ρ, st, s, r, p⟩ := w
      rw [evS] at p
      exact p _ H m Ext.refl s (by rw [Rp])
    · cases h
  | .pass, scp, E, X, s, h, hX => by
    unfold chkS at h
    split at h
    · refine PS.weak ps_pass fun D σ H w => ?_
      obtain ⟨m, ρ, st, s, r, p⟩ := w
      rw [evS] at p
      exact p σ H m Ext.refl s r
    · cases h
  | .brk, scp, E, X, s, h, hX => by
    unfold chkS at h
    split at h
    · refine PS.weak ps_break fun D σ H w => ?_
      obtain ⟨m, ρ, st, s, r, p⟩ := w
      rw [evS] at p
      exact p σ H m Ext.refl s r
    · cases h
  | .cont, scp, E, X, s, h, hX => by
    unfold chkS at h
    split at h
    · refine PS.weak ps_continue fun D σ H w => ?_
      obtain ⟨m, ρ, st, s, r, p⟩ := w
      rw [evS] at p
      exact p σ H m Ext.refl s r
    · cases h
  | .ite c a b, scp, E, X, s, h, hX => by
    unfold chkS at h
    split at h
    · obtain ⟨h1, h3⟩ := bex h
      obtain ⟨h1, h2⟩ := bex h1
      exact PS.weak (ps_if (snd L c hW h1 hX.toXOk).pt (sndSs hW L a h2 hX) (sndSs hW L b h3 hX)) fun D σ H w => ite_S w
    · cases h
  | .whl c b, scp, E, X, s, h, hX => by
    unfold chkS at h
    split at h
    · obtain ⟨h1, h2⟩ := bex h
      exact PS.weak (ps_while hX.own (snd L c hW h1 hX.toXOk).pt (sndSs hW L b h2 hX)) fun D σ H w => whl_S w
    · cases h
  | .for_ t it b, scp, E, X, s, h, hX => by
    unfold chkS at h
    split at h
    · obtain ⟨h1, h4⟩ := bex h
      obtain ⟨h1, h3⟩ := bex h1
      obtain ⟨h1, h2⟩ := bex h1
      obtain ⟨h1, htg⟩ := bex h1
      have z := pg_IT hX.t h1
      rw [hX.K] at z
      exact PS.weak (ps_for hX.own hX.calm (sndI L it hW h2 htg hX.toXOk) z (sndSs hW L b h4 hX) (foldSet_of (bnot h3))) fun D σ H w => for_S w
    · cases h
  | .tryN b, scp, E, X, s, h, hX => by
    unfold chkS at h
    split at h
    · exact PS.weak (ps_try_thru0 (sndSs hW L b h hX.nox)) fun D σ H w => tryN_S w
    · cases h
  | .rais0 c, scp, E, X, s, h, hX => by
    unfold chkS at h
    split at h
    · obtain ⟨h1, h2⟩ := bex h
      obtain ⟨g1, g2⟩ := gl_of h2 hX.sc
      obtain ⟨k1, k2⟩ := hW.x0 _ c (of_decide_eq_true h1)
      exact PS.weak (ps_raise hX.calm hX.tk (pmk_own PySem.F.excBase_ValueError (by rw [hX.K]; exact k2.ex) (by rw [hX.mg]; exact k1) (by rw [hX.K]; exact k2.kp) (raises_own (by rw [hX.K]; exact k2.sb) (by rw [hX.K]; exact k2.ty)) g1 g2)) fun D σ H w => rais0_S w
    · cases h
  | .rais1 c f a, scp, E, X, s, h, hX => by
    unfold chkS at h
    split at h
    · obtain ⟨h1, h4⟩ := bex h
      obtain ⟨h1, h3⟩ := bex h1
      obtain ⟨h1, h2⟩ := bex h1
      obtain ⟨g1, g2⟩ := gl_of h2 hX.sc
      obtain ⟨k1, k2⟩ := hW.x1 _ c f (of_decide_eq_true h1)
      obtain ⟨fI, fd, ps, i1, i2, i3, i4⟩ := k2.ex
      have F := FnOk.at hX.toXOk i4
      have he := (snd L a hW h4 hX.toXOk).pe
      exact PS.weak (ps_raise hX.calm hX.tk (pmk_oex (by rw [hX.K]; exact k2.oc) (by rw [hX.K]; exact i1) (by rw [hX.K]; exact i2) F (hX.room.mono (by omega)) (by rw [hX.K]; exact i3) .nil passL g1 (by rw [hX.mg]; exact k1) (pa_cons he pa_nil (star_cons (bnot h3))) g2 (star_cons (bnot h3)) rfl)) fun D σ H w => rais1_S w
    · cases h
  | .never, scp, E, X, s, h, hX => by
    refine PS.weak ps_never fun D σ H w => ?_
    obtain ⟨m, ρ, st, s, r, p⟩ := w
    rw [evS] at p
    exact p
theorem sndSs (hW : WOk W cc) (L : Lv W k) : ∀ (a : ISs) {scp : Scope} {E : XK} {X : Cx} {s : List Stmt}, chkSs cc Ns scp a s = true → SOk W cc Ns scp k E X → PSs X s (tS W E (evSs (W.cl k) W.F a))
  | .nil, scp, E, X, s, h, hX => by
    unfold chkSs at h
    split at h
    · refine PSs.weak pss_nil fun D σ H w => ?_
      obtain ⟨m, ρ, st, s, r, p⟩ := w
      rw [evSs] at p
      exact p σ H m Ext.refl s r
    · cases h
  | .cons a r, scp, E, X, s, h, hX => by
    unfold chkSs at h
    split at h
    · obtain ⟨h1, h2⟩ := bex h
      refine PSs.weak (pss_cons (sndS hW L a h1 hX) (sndSs hW L r h2 hX)) fun D σ H w => ?_
      obtain ⟨m, ρ, st, s, rr, p⟩ := w
      rw [evSs] at p
      refine ⟨m, ρ, st, s, rr, ?_⟩
      have q := p.then
      -- what stands behind is the rest's reading
      cases hr : evS (W.cl k) W.F a ρ st with
      | ok f ρ1 st1 =>
        rw [hr] at q
        cases f with
        | nx =>
          intro σ' H' m' e' s' r'
          obtain ⟨m2, ρ2, st2, e2, s2, r2, p2⟩ := q σ' H' m' e' s' r'
          exact ⟨m2, ρ2, st2, s2, r2, p2⟩
        | bk => exact q
        | ct => exact q
        | rt d => exact q
      | exc x ρ1 st1 => rw [hr] at q; exact q
      | stuck => rw [hr] at q; exact q
    · cases h
end

/-! ### what a call forgets -/
mutual
theorem Rp.cl {K : PySem.W.Frag} {H : Hp} {m : List Addr} : ∀ {d : D} {v : V}, Rp K H m d v → clD m.length d = true
  | .non, v, h => rfl
  | .bl _, v, h => rfl
  | .int _, v, h => rfl
  | .str _, v, h => rfl
  | .tup ds, v, h => by
    obtain ⟨a, vs, _, _, h⟩ := h.tup_ref
    rw [clD]; exact Rps.cl h
  | .loc n, v, h => by
    rw [Rp] at h
    obtain ⟨a, h, _⟩ := h
    rw [clD]; exact decide_eq_true (List.getElem?_eq_some_iff.mp h).1
  | .fl ds, v, h => by
    rw [Rp] at h
    obtain ⟨a, vs, _, _, h⟩ := h
    rw [clD]; exact Rps.cl h
theorem Rps.cl {K : PySem.W.Frag} {H : Hp} {m : List Addr} : ∀ {d : List D} {v : List V}, Rps K H m d v → clDs m.length d = true
  | [], v, h => rfl
  | d :: ds, v, h => by
    rw [Rps] at h
    obtain ⟨u, us, _, h1, h2⟩ := h
    rw [clDs, Rp.cl h1, Rps.cl h2]; rfl
end
mutual
theorem Rp.down {K : PySem.W.Frag} {H : Hp} {m l : List Addr} : ∀ {d : D} {v : V}, clD m.length d = true → Rp K H (m ++ l) d v → Rp K H m d v
  | .non, v, _, h => by rw [Rp] at h ⊢; exact h
  | .bl _, v, _, h => by rw [Rp] at h ⊢; exact h
  | .int _, v, _, h => by rw [Rp] at h ⊢; exact h
  | .str _, v, _, h => by rw [Rp] at h ⊢; exact h
  | .tup ds, v, c, h => by
    rw [Rp] at h ⊢
    rw [clD] at c
    obtain ⟨a, vs, e, h1, h2⟩ := h
    exact ⟨a, vs, e, h1, Rps.down c h2⟩
  | .loc n, v, c, h => by
    rw [Rp] at h ⊢
    rw [clD, decide_eq_true_eq] at c
    obtain ⟨a, h1, e⟩ := h
    rw [List.getElem?_append_left c] at h1
    exact ⟨a, h1, e⟩
  | .fl ds, v, c, h => by
    rw [Rp] at h ⊢
    rw [clD] at c
    obtain ⟨a, vs, e, h1, h2⟩ := h
    exact ⟨a, vs, e, h1, Rps.down c h2⟩
theorem Rps.down {K : PySem.W.Frag} {H : Hp} {m l : List Addr} : ∀ {d : List D} {v : List V}, clDs m.length d = true → Rps K H (m ++ l) d v → Rps K H m d v
  | [], v, _, h => by rw [Rps] at h ⊢; exact h
  | d :: ds, v, c, h => by
    rw [clDs, Bool.and_eq_true] at c
    rw [Rps] at h ⊢
    obtain ⟨u, us, e, h1, h2⟩ := h
    exact ⟨u, us, e, Rp.down c.1 h1, Rps.down c.2 h2⟩
end
mutual
theorem clD_mono {n n' : Nat} (h : n ≤ n') : ∀ {d : D}, clD n d = true → clD n' d = true
  | .non, _ => rfl
  | .bl _, _ => rfl
  | .int _, _ => rfl
  | .str _, _ => rfl
  | .tup ds, c => by rw [clD] at c ⊢; exact clDs_mono h c
  | .loc k, c => by rw [clD, decide_eq_true_eq] at c ⊢; omega
  | .fl ds, c => by rw [clD] at c ⊢; exact clDs_mono h c
theorem clDs_mono {n n' : Nat} (h : n ≤ n') : ∀ {d : List D}, clDs n d = true → clDs n' d = true
  | [], _ => rfl
  | d :: ds, c => by
    rw [clDs, Bool.and_eq_true] at c ⊢
    exact ⟨clD_mono h c.1, clDs_mono h c.2⟩
end
theorem Dent.down {H : Hp} {m l : List Addr} : ∀ {kvs : List (D × D)} {xs : NdX}, (clDs m.length (kvs.map (·.1)) && clDs m.length (kvs.map (·.2))) = true → Dent W.K H (m ++ l) kvs xs → Dent W.K H m kvs xs
  | [], xs, _, h => h
  | (k, d) :: r, xs, c, h => by
    simp only [List.map_cons, clDs, Bool.and_eq_true] at c
    obtain ⟨nk, ka, u, v, xs', e, h2, h3, h4, h5, h6, h7⟩ := h
    exact ⟨nk, ka, u, v, xs', e, h2, h3, Rp.down c.1.1 h4, h5, Rp.down c.2.1 h6, Dent.down (by rw [c.1.2, c.2.2]; rfl) h7⟩
theorem Dkt.down {H : Hp} {m l : List Addr} : ∀ {kvs : List (D × D)} {xs : List (Key × V)}, (clDs m.length (kvs.map (·.1)) && clDs m.length (kvs.map (·.2))) = true → Dkt W.K H (m ++ l) kvs xs → Dkt W.K H m kvs xs
  | [], xs, _, h => h
  | (k, d) :: r, xs, c, h => by
    simp only [List.map_cons, clDs, Bool.and_eq_true] at c
    obtain ⟨ky, v, xs', e, h2, h6, h7⟩ := h
    exact ⟨ky, v, xs', e, h2, Rp.down c.2.1 h6, Dkt.down (by rw [c.1.2, c.2.2]; rfl) h7⟩
theorem Dent.cl {H : Hp} {m : List Addr} : ∀ {kvs : List (D × D)} {xs : NdX}, Dent W.K H m kvs xs → (clDs m.length (kvs.map (·.1)) && clDs m.length (kvs.map (·.2))) = true
  | [], xs, h => rfl
  | (k, d) :: r, xs, h => by
    obtain ⟨nk, ka, u, v, xs', e, h2, h3, h4, h5, h6, h7⟩ := h
    have ih := Dent.cl h7
    rw [Bool.and_eq_true] at ih
    simp only [List.map_cons, clDs, Bool.and_eq_true]
    exact ⟨⟨Rp.cl h4, ih.1⟩, Rp.cl h6, ih.2⟩
theorem Dkt.cl {H : Hp} {m : List Addr} : ∀ {kvs : List (D × D)} {xs : List (Key × V)}, Dkt W.K H m kvs xs → (clDs m.length (kvs.map (·.1)) && clDs m.length (kvs.map (·.2))) = true
  | [], xs, h => rfl
  | (k, d) :: r, xs, h => by
    obtain ⟨ky, v, xs', e, h2, h6, h7⟩ := h
    have ih := Dkt.cl h7
    rw [Bool.and_eq_true] at ih
    simp only [List.map_cons, clDs, Bool.and_eq_true]
    refine ⟨⟨?_, ih.1⟩, Rp.cl h6, ih.2⟩
    cases k <;> simp [kyD] at h2 <;> rfl
section
variable {K : PySem.W.Frag} {H : Hp} {m1 m2 : List Addr} {g : Nat → Nat} {p : Nat → Bool}
mutual
theorem Rp.rn (hg : ∀ k a, p k = true → m1[k]? = some a → m2[g k]? = some a) : ∀ {d : D} {v : V}, (locsD d).all p = true → Rp K H m1 d v → Rp K H m2 (rnD g d) v
  | .non, v, _, h => by rw [rnD]; rw [Rp] at h ⊢; exact h
  | .bl _, v, _, h => by rw [rnD]; rw [Rp] at h ⊢; exact h
  | .int _, v, _, h => by rw [rnD]; rw [Rp] at h ⊢; exact h
  | .str _, v, _, h => by rw [rnD]; rw [Rp] at h ⊢; exact h
  | .tup ds, v, c, h => by
    rw [locsD] at c
    rw [rnD]
    rw [Rp] at h ⊢
    obtain ⟨a, vs, e, h1, h2⟩ := h
    exact ⟨a, vs, e, h1, Rps.rn hg c h2⟩
  | .loc n, v, c, h => by
    rw [rnD]
    rw [Rp] at h ⊢
    obtain ⟨a, h1, e⟩ := h
    exact ⟨a, hg n a (by simpa [locsD] using c) h1, e⟩
  | .fl ds, v, c, h => by
    rw [locsD] at c
    rw [rnD]
    rw [Rp] at h ⊢
    obtain ⟨a, vs, e, h1, h2⟩ := h
    exact ⟨a, vs, e, h1, Rps.rn hg c h2⟩
theorem Rps.rn (hg : ∀ k a, p k = true → m1[k]? = some a → m2[g k]? = some a) : ∀ {d : List D} {v : List V}, (locsDs d).all p = true → Rps K H m1 d v → Rps K H m2 (rnDs g d) v
  | [], v, _, h => by rw [rnDs]; rw [Rps] at h ⊢; exact h
  | d :: ds, v, c, h => by
    rw [locsDs, List.all_append, Bool.and_eq_true] at c
    rw [rnDs]
    rw [Rps] at h ⊢
    obtain ⟨u, us, e, h1, h2⟩ := h
    exact ⟨u, us, e, Rp.rn hg c.1 h1, Rps.rn hg c.2 h2⟩
end
mutual
theorem rnD_free : ∀ {d : D}, locsD d = [] → rnD g d = d
  | .non, _ => rfl
  | .bl _, _ => rfl
  | .int _, _ => rfl
  | .str _, _ => rfl
  | .tup ds, c => by rw [locsD] at c; rw [rnD, rnDs_free c]
  | .loc k, c => by simp [locsD] at c
  | .fl ds, c => by rw [locsD] at c; rw [rnD, rnDs_free c]
theorem rnDs_free : ∀ {d : List D}, locsDs d = [] → rnDs g d = d
  | [], _ => rfl
  | d :: ds, c => by
    rw [locsDs, List.append_eq_nil_iff] at c
    rw [rnDs, rnD_free c.1, rnDs_free c.2]
end
mutual
theorem nkD_locs : ∀ {d : D} {k : NestedKey}, nkD d = some k → locsD d = []
  | .non, _, _ => rfl
  | .int _, _, _ => rfl
  | .str _, _, _ => rfl
  | .tup ds, k, h => by
    rw [nkD] at h
    rw [locsD]
    split at h
    · rename_i ks e; exact nkDs_locs e
    · cases h
  | .bl _, _, h => by simp [nkD] at h
  | .loc _, _, h => by simp [nkD] at h
  | .fl _, _, h => by simp [nkD] at h
theorem nkDs_locs : ∀ {d : List D} {k : List NestedKey}, nkDs d = some k → locsDs d = []
  | [], _, _ => rfl
  | d :: ds, k, h => by
    rw [nkDs] at h
    split at h
    · rename_i k ks e1 e2
      rw [locsDs, nkD_locs e1, nkDs_locs e2]; rfl
    · cases h
end
theorem Rp.free {d : D} {v : V} (c : locsD d = []) (h : Rp K H m1 d v) : Rp K H m2 d v := by
  have := Rp.rn (g := id) (p := fun _ => false) (m1 := m1) (m2 := m2) (fun k a z => by cases z) (by rw [c]; rfl) h
  rwa [rnD_free c] at this
end
theorem rnDs_map (g : Nat → Nat) : ∀ ds : List D, rnDs g ds = ds.map (rnD g)
  | [] => rfl
  | d :: ds => by rw [rnDs, rnDs_map g ds]; rfl
theorem Dent.rn {H : Hp} {m1 m2 : List Addr} {g : Nat → Nat} {p : Nat → Bool} (hg : ∀ k a, p k = true → m1[k]? = some a → m2[g k]? = some a) : ∀ {kvs : List (D × D)} {xs : NdX}, (locsDs (kvs.map (·.2))).all p = true → Dent W.K H m1 kvs xs → Dent W.K H m2 (kvs.map fun q => (q.1, rnD g q.2)) xs
  | [], xs, _, h => h
  | (k, d) :: r, xs, c, h => by
    obtain ⟨nk, ka, u, v, xs', e, h2, h3, h4, h5, h6, h7⟩ := h
    rw [List.map_cons, locsDs, List.all_append, Bool.and_eq_true] at c
    exact ⟨nk, ka, u, v, xs', e, h2, h3, h4.free (nkD_locs h2), h5, h6.rn hg c.1, Dent.rn hg c.2 h7⟩
theorem Dkt.rn {H : Hp} {m1 m2 : List Addr} {g : Nat → Nat} {p : Nat → Bool} (hg : ∀ k a, p k = true → m1[k]? = some a → m2[g k]? = some a) : ∀ {kvs : List (D × D)} {xs : List (Key × V)}, (locsDs (kvs.map (·.2))).all p = true → Dkt W.K H m1 kvs xs → Dkt W.K H m2 (kvs.map fun q => (q.1, rnD g q.2)) xs
  | [], xs, _, h => h
  | (k, d) :: r, xs, c, h => by
    obtain ⟨ky, v, xs', e, h2, h6, h7⟩ := h
    rw [List.map_cons, locsDs, List.all_append, Bool.and_eq_true] at c
    exact ⟨ky, v, xs', e, h2, h6.rn hg c.1, Dkt.rn hg c.2 h7⟩
theorem CellOk.rn {H : Hp} {m1 m2 : List Addr} {g : Nat → Nat} {p : Nat → Bool} (hg : ∀ k a, p k = true → m1[k]? = some a → m2[g k]? = some a) {a : Addr} {c : Cell} (hc : (locsC c).all p = true) (h : CellOk W H m1 a c) : CellOk W H m2 a (rnC g c) := by
  cases c with
  | lst ds => obtain ⟨vs, h1, h2⟩ := h; exact ⟨vs, h1, h2.rn hg hc⟩
  | ins c fs =>
    obtain ⟨dx, gs, h0, h1, h2, h3⟩ := h
    refine ⟨dx, gs, h0, h1, ?_, ?_⟩
    · rw [h2, List.map_map]; rfl
    · have := h3.rn hg hc
      rw [rnDs_map, List.map_map] at this
      rw [List.map_map]
      exact this
  | dct kvs => obtain ⟨xs, h1, h2⟩ := h; exact ⟨xs, h1, h2.rn hg hc⟩
  | dck kvs => obtain ⟨xs, h1, h2⟩ := h; exact ⟨xs, h1, h2.rn hg hc⟩
/-- what stood, behind a call -/
theorem old_cells {m l : List Addr} {H H' : Hp} {st0 st : Sto} (s0 : Sim W H m st0) (s' : Sim W H' (m ++ l) st) (hk : OldOk st0 st) : st0.length ≤ st.length ∧ ∀ (i : Nat) (c : Cell) (a : Addr), st[i]? = some c → m[i]? = some a → CellOk W H' m a c := by
  have hle : st0.length ≤ st.length := by
    have h1 := s'.len
    rw [List.length_append, s0.len] at h1
    omega
  have dn : ∀ {ds : List D} {vs : List V}, clDs m.length ds = true → Rps W.K H' (m ++ l) ds vs → Rps W.K H' m ds vs := fun c r => Rps.down c r
  have sc : ∀ {c : Cell} {a : Addr}, clC m.length c = true → CellOk W H' (m ++ l) a c → CellOk W H' m a c := fun {c a} hc q => by
    cases c with
    | lst ds =>
      obtain ⟨vs, h1, h2⟩ := q
      exact ⟨vs, h1, dn hc h2⟩
    | ins c fs =>
      obtain ⟨dx, gs, h0, h1, h2, h3⟩ := q
      exact ⟨dx, gs, h0, h1, h2, dn hc h3⟩
    | dct kvs =>
      obtain ⟨xs, h1, h2⟩ := q
      exact ⟨xs, h1, h2.down hc⟩
    | dck kvs =>
      obtain ⟨xs, h1, h2⟩ := q
      exact ⟨xs, h1, h2.down hc⟩
  have cl0 : ∀ {c : Cell} {a : Addr}, CellOk W H m a c → clC m.length c = true := fun {c a} q => by
    cases c with
    | lst ds => obtain ⟨vs, _, h2⟩ := q; exact Rps.cl h2
    | ins c fs => obtain ⟨dx, gs, _, _, _, h3⟩ := q; exact Rps.cl h3
    | dct kvs => obtain ⟨xs, h1, h2⟩ := q; exact h2.cl
    | dck kvs => obtain ⟨xs, h1, h2⟩ := q; exact h2.cl
  refine ⟨hle, fun i c a h1 h2 => ?_⟩
  have hi : i < st0.length := by
    have := (List.getElem?_eq_some_iff.mp h2).1
    rw [s0.len] at this; exact this
  have q := s'.ok i c a h1 (by rw [List.getElem?_append_left (by rw [s0.len]; exact hi)]; exact h2)
  refine sc ?_ q
  rcases hk i hi with z | z
  · rw [h1] at z
    exact cl0 (s0.ok i c a z.symm h2)
  · rw [h1] at z
    have z' : clC st0.length c = true := by simpa using z
    rw [s0.len]; exact z'
theorem Ext.cut {m l l' : List Addr} {H H' : Hp} (e : Ext m (m ++ l) H H') (h : ∀ a ∈ l', a ∈ l) : Ext m (m ++ l') H H' := ⟨⟨l', rfl⟩, fun a o ha nt hn => by
  obtain ⟨h1, h2⟩ := e.keep a o ha nt hn
  refine ⟨h1, fun z => h2 ?_⟩
  rcases List.mem_append.mp z with z | z
  · exact List.mem_append.mpr (.inl z)
  · exact List.mem_append.mpr (.inr (h a z))⟩
theorem CellOk.wide {H : Hp} {m l : List Addr} {a : Addr} {c : Cell} (h : CellOk W H m a c) : CellOk W H (m ++ l) a c := by
  have hm : ∀ (n : Nat) (a : Addr), m[n]? = some a → (m ++ l)[n]? = some a := fun n a z => by
    rw [List.getElem?_append_left (List.getElem?_eq_some_iff.mp z).1]; exact z
  cases c with
  | lst ds => obtain ⟨us, h3, h4⟩ := h; exact ⟨us, h3, h4.mono (fun _ _ z => z) (fun _ _ z => z) hm⟩
  | ins c fs => obtain ⟨dx, gs, hc, h3, h4⟩ := h; exact ⟨dx, gs, hc, h3, h4.1, h4.2.mono (fun _ _ z => z) (fun _ _ z => z) hm⟩
  | dct kvs => obtain ⟨xs, h3, h4⟩ := h; exact ⟨xs, h3, h4.mono (fun _ _ z => z) (fun _ _ z => z) hm⟩
  | dck kvs => obtain ⟨xs, h3, h4⟩ := h; exact ⟨xs, h3, h4.mono (fun _ _ z => z) (fun _ _ z => z) hm⟩
theorem finish_ok {E : XK} {m : List Addr} {H : Hp} {st0 : Sto} {r : R D} {Q : VK} (s0 : Sim W H m st0) (h : Pg W E m H (finish st0 r) (kD W Q)) : Pg W E m H r (kD W Q) := by
  cases r with
  | stuck => exact h
  | exc e st =>
    unfold finish at h
    dsimp only at h
    by_cases hc : exC e = true ∧ OldOk st0 st
    · rw [if_pos hc] at h
      obtain ⟨hd, hk⟩ := hc
      intro dx H' m' ee s' hx
      obtain ⟨l, rfl⟩ := ee.pre
      obtain ⟨hle, old⟩ := old_cells s0 s' hk
      have s2 : Sim W H' m (st.take st0.length) := by
        refine ⟨by rw [List.length_take, s0.len]; omega, s0.nd, fun i c a h1 h2 => ?_, s'.tb.to (fun b o h hn _ => ⟨h, fun z => hn (List.mem_append_left _ z)⟩) s'.tm⟩
        have hi : i < st0.length := by
          have := (List.getElem?_eq_some_iff.mp h2).1
          rw [s0.len] at this; exact this
        rw [List.getElem?_take_of_lt hi] at h1
        exact old i c a h1 h2
      have e2 := Ext.cut (l' := []) ee (by simp)
      rw [List.append_nil] at e2
      refine h dx H' m e2 s2 ?_
      unfold ExR at hx ⊢
      unfold exC at hd
      cases hf : e.f with
      | none => rw [hf] at hx; exact hx
      | some fd =>
        obtain ⟨f, d⟩ := fd
        rw [hf] at hx hd
        obtain ⟨a, v, h1, h2, h3⟩ := hx
        exact ⟨a, v, h1, h2, Rp.down (clD_mono (Nat.zero_le _) hd) h3⟩
    · rw [if_neg hc] at h; exact h
  | ok d st =>
    unfold finish at h
    dsimp only at h
    by_cases hk : OldOk st0 st
    · rw [if_pos hk] at h
      generalize reach st0.length st 40 (locsD d) [] = L at h
      unfold gcD at h
      by_cases hc : GcOk st0.length L d st
      · rw [if_pos hc] at h
        obtain ⟨c1, c2, c3⟩ := hc
        intro H' m' e s' v rv
        obtain ⟨l, rfl⟩ := e.pre
        obtain ⟨hle, old⟩ := old_cells s0 s' hk
        have hm0 : m.length = st0.length := s0.len
        have hm1 : (m ++ l).length = st.length := s'.len
        let l' : List Addr := L.map fun k => ((m ++ l)[k]?).getD 0
        have inL : ∀ k ∈ L, ∃ a c, (m ++ l)[k]? = some a ∧ a ∈ l ∧ st[k]? = some c ∧ (locsC c).all (okN st0.length L) = true := fun k hk => by
          obtain ⟨h1, h2⟩ := c2 k hk
          cases hs : st[k]? with
          | none => rw [hs] at h2; cases h2
          | some c =>
            rw [hs] at h2
            have hl : k < (m ++ l).length := by rw [hm1]; exact (List.getElem?_eq_some_iff.mp hs).1
            refine ⟨(m ++ l)[k], c, List.getElem?_eq_getElem hl, ?_, rfl, by simpa using h2⟩
            rw [List.getElem_append_right (by omega)]
            exact List.getElem_mem _
        have hsub : ∀ b ∈ m ++ l', b ∈ m ++ l := fun b z => by
          rcases List.mem_append.mp z with z | z
          · exact List.mem_append_left _ z
          · obtain ⟨k, hk, rfl⟩ := List.mem_map.mp z
            obtain ⟨a, c, h1, h2, _⟩ := inL k hk
            rw [h1]; exact List.mem_append_right _ h2
        have e2 : Ext m (m ++ l') H H' := Ext.cut e fun a ha => by
          obtain ⟨k, hk, rfl⟩ := List.mem_map.mp ha
          obtain ⟨a, c, h1, h2, _⟩ := inL k hk
          rw [h1]; exact h2
        have hg : ∀ k a, okN st0.length L k = true → (m ++ l)[k]? = some a → (m ++ l')[newN st0.length L k]? = some a := fun k a hok hka => by
          unfold newN
          by_cases hlt : k < st0.length
          · rw [if_pos hlt, List.getElem?_append_left (by omega)]
            rw [List.getElem?_append_left (by omega)] at hka
            exact hka
          · rw [if_neg hlt]
            have hkL : k ∈ L := by
              unfold okN at hok
              rw [Bool.or_eq_true, decide_eq_true_eq, decide_eq_true_eq] at hok
              exact hok.resolve_left hlt
            rw [List.getElem?_append_right (by omega), hm0, Nat.add_sub_cancel_left, List.getElem?_map, List.getElem?_eq_getElem (List.idxOf_lt_length_iff.mpr hkL), List.getElem_idxOf]
            rw [Option.map_some, hka]; rfl
        have s2 : Sim W H' (m ++ l') (st.take st0.length ++ L.map (pickC st0.length L st)) := by
          refine ⟨by simp [l', hm0]; omega, ?_, fun i c a h1 h2 => ?_, s'.tb.to (fun b o h hn _ => ⟨h, fun z => hn (hsub b z)⟩) s'.tm⟩
          · have nd := s'.nd
            rw [List.nodup_append] at nd ⊢
            refine ⟨nd.1, ?_, fun a ha b hb => ?_⟩
            · refine List.pairwise_map.mpr (c1.imp_of_mem fun {x y} hx hy hne hxy => hne ?_)
              obtain ⟨a, _, h1, _⟩ := inL x hx
              obtain ⟨b, _, g1, _⟩ := inL y hy
              rw [h1, g1] at hxy
              have hab : a = b := hxy
              subst hab
              obtain ⟨p1, p2⟩ := List.getElem?_eq_some_iff.mp h1
              obtain ⟨q1, q2⟩ := List.getElem?_eq_some_iff.mp g1
              exact (List.getElem_inj s'.nd).mp (p2.trans q2.symm)
            · obtain ⟨k, hk, rfl⟩ := List.mem_map.mp hb
              obtain ⟨b, c, h1, h2, _⟩ := inL k hk
              rw [h1]
              exact nd.2.2 a ha b h2
          · by_cases hi : i < st0.length
            · rw [List.getElem?_append_left (by rw [List.length_take]; omega), List.getElem?_take_of_lt hi] at h1
              rw [List.getElem?_append_left (by omega)] at h2
              exact (old i c a h1 h2).wide
            · rw [List.getElem?_append_right (by rw [List.length_take]; omega), List.length_take, Nat.min_eq_left hle, List.getElem?_map] at h1
              rw [List.getElem?_append_right (by omega), hm0, List.getElem?_map] at h2
              cases hj : L[i - st0.length]? with
              | none => rw [hj] at h1; cases h1
              | some k =>
                rw [hj] at h1 h2
                obtain ⟨b, c', g1, _, g3, g4⟩ := inL k (List.mem_of_getElem? hj)
                rw [Option.map_some, Option.some.injEq] at h1 h2
                subst h1
                rw [g1] at h2
                have hab : b = a := h2
                subst hab
                unfold pickC
                rw [g3]
                exact (s'.ok k c' b g3 g1).rn hg g4
        exact h.go e2 s2 v (rv.rn hg c3)
      · rw [if_neg hc] at h; exact h
    · rw [if_neg hk] at h; exact h
/-! ### a def -/
/-- a def (or a method) that stands in the text -/
structure DefOk (W : Wd) (cc : CC) (i : Nat) (fi : FnIR) : Prop where
  ex : ∃ (x qual : Str) (st : Stmt) (Ns : List Str) (lam : Option (Addr × Str)), Fun W.K x qual st (W.fa i) (W.fd i) ∧ FnScope Ns (W.ps i) (defScope st) ∧ chkSs { cc with lam := lam } Ns (defScope st) fi.body (defBody st) = true ∧ Ns.length = fi.nl ∧ (W.ps i).length = fi.np ∧ fi.np ≤ fi.nl ∧
    ∀ c q, lam = some (c, q) → (W.fd i).code = .ref c ∧ q = (PyProof.Rows.envOfC qual (defScope st) 0 0 .none).qual ∧ ∃ P, LamX.TabB W.base W.mg c P ∧ (P, q ++ "<lambda>") ∈ W.T ∧ ∀ p ∈ W.T, p.1 = P → p.2 = q ++ "<lambda>"
theorem WOk.lamm (h : WOk W cc) (lam : Option (Addr × Str)) : WOk W { cc with lam := lam } := ⟨h.fn, h.bi, h.gl, h.bl, h.cl, h.cls, h.nf, h.mkk, h.mt, h.td, h.x0, h.x1⟩
theorem lv_succ (hW : WOk W cc) (hd : ∀ (i : Nat) (fi : FnIR), W.pr.fns[i]? = some fi → DefOk W cc i fi) (L : Lv W k) : Lv W (k + 1) := by
  intro i fi hi
  obtain ⟨x, qual, st, Ns, lam, F, S, hc, hl, hp, hle, hlam⟩ := (hd i fi hi).ex
  obtain ⟨oc, od, kV, doc, pm, an, cdv, ct, osl, hfd, lk, hcd⟩ := F.ex
  rw [hfd] at lk
  have hcode : (W.fd i).code = cdv := by rw [hfd] <;> rfl
  have main : FnOk W.P W.w W.K W.mg W.base (L2.CX W.P W.w) (4 * (k + 1) + 1) (W.fa i) (PySem.W.fnOf x qual (defArgs st) (defBody st) (defScope st) .none kV doc pm an cdv ct) (W.ps i) (spE W (W.pr.call W.F (k + 1)) i) := ?_
  · rw [hfd]; exact main
  refine fn_of (k := 4 * k + 4) lk hcd S (fun vs H Q E h => ?_) (fun A outer s H vs Q E hr h => ?_)
  · obtain ⟨m, st, ds, _, _, h, _⟩ := h
    exact h
  obtain ⟨m, sto, ds, sm, rs, hlen, p⟩ := h
  have hl0 : ∀ c q, lam = some (c, q) → Room (4 * k + 4) (A.deeper (PyProof.Rows.envOfC qual (defScope st) s.heap.objs.size (W.fa i) cdv)) ∧ cdv = .ref c ∧ (PyProof.Rows.envOfC qual (defScope st) 0 0 .none).qual = q ∧ ∃ P, LamX.TabB W.base W.mg c P ∧ (P, q ++ "<lambda>") ∈ W.T ∧ ∀ p ∈ W.T, p.1 = P → p.2 = q ++ "<lambda>" := fun c q e => by
    obtain ⟨h1, h2, h3⟩ := hlam c q e
    exact ⟨hr, hcode.symm.trans h1, h2.symm, h3⟩
  have hX : SOk W { cc with lam := lam } Ns (defScope st) k E (cxOf (L2.CX W.P W.w) W.P W.w W.K W.mg W.base Ns qual (defScope st) (W.fa i) cdv A outer s H E) :=
    ⟨⟨rfl, rfl, rfl, rfl, rfl, rfl, S.nd, rfl, rfl, hr.mono (by omega), passes_call (takes_of rfl rfl rfl rfl) fun _ _ _ _ h => h, fun c q e => by
      obtain ⟨h1, h2, h3, h4⟩ := hl0 c q e
      exact ⟨h1, h2, h3, h4⟩⟩, rfl, S.kind, passes_of rfl, takes_of rfl rfl rfl rfl⟩
  refine ⟨_, sndSs (WOk.lamm hW lam) L fi.body hc hX, ?_⟩
  have p' : Pg W E m H (finish sto (runB (evSs (W.cl k) W.F fi.body (ds.map some ++ List.replicate (fi.nl - fi.np) none) sto))) (kD W Q) := by
    have p : Pg W E m H (W.pr.step W.F (W.cl k) i ds sto) (kD W Q) := p
    unfold Prog.step at p
    rw [hi] at p
    exact p.ite.2
  have q := finish_ok sm p'
  have hdl : ds.length = fi.np := by rw [← rs.len, hlen, hp]
  refine ⟨m, ds.map some ++ List.replicate (fi.nl - fi.np) none, sto, sm, ⟨?_, fun j d hj => ?_⟩, ?_⟩
  · have e1 := rs.len
    unfold L2.start
    simp only [List.length_append, List.length_map, List.length_replicate]
    omega
  · unfold L2.start
    by_cases hjl : j < ds.length
    · rw [List.getElem?_append_left (by simpa using hjl), List.getElem?_map] at hj
      cases hq : ds[j]? with
      | none => rw [hq] at hj; cases hj
      | some d' =>
        rw [hq] at hj
        cases hj
        obtain ⟨v, hv, rv⟩ := rs.get hq
        have hjv : j < vs.length := (List.getElem?_eq_some_iff.mp hv).1
        refine ⟨v, ?_, rv⟩
        rw [List.getElem?_append_left (by simpa using hjv), List.getElem?_map, hv]
        rfl
    · rw [List.getElem?_append_right (by simpa using Nat.le_of_not_lt hjl)] at hj
      rw [List.getElem?_replicate] at hj
      split at hj
      · cases hj
      · cases hj
  · generalize evSs (W.cl k) W.F fi.body (ds.map some ++ List.replicate (fi.nl - fi.np) none) sto = r at q
    cases r with
    | ok f ρ st1 => cases f with
      | nx => exact fun σ' H' m' e' s' _ => q H' m' e' s' _ (by rw [Rp])
      | bk => exact q.elim
      | ct => exact q.elim
      | rt d => exact fun v H' m' e' s' rv => q H' m' e' s' v rv
    | exc x ρ st1 => exact q
    | stuck => exact q.elim
/-- all levels -/
theorem lv_all (hW : WOk W cc) (hd : ∀ (i : Nat) (fi : FnIR), W.pr.fns[i]? = some fi → DefOk W cc i fi) : ∀ k, Lv W k
  | 0 => fun i fi hi => by
    have no : ∀ vs H Q E, ¬ spE W (W.pr.call W.F 0) i vs H Q E := fun vs H Q E h => by
      obtain ⟨_, _, _, _, _, _, p⟩ := h
      exact p
    exact ⟨fun vs H Q E h => absurd h (no vs H Q E), fun A outer s H args us vs Q E _ _ _ _ h => absurd h (no vs H Q E)⟩
  | k + 1 => lv_succ hW hd (lv_all hW hd k)
/-- THE LAW: it promises True, if its evaluation says so -/
def spLaw (T : List (Addr × Str)) (K : PySem.W.Frag) : Sp := fun vs H Q _ => ∃ (a : Addr) (ns : List Int), vs = [.ref a] ∧ (∀ p ∈ T, H p.1 = some (.tbl #[])) ∧ SqF K H a (ns.map V.int) ∧ ns.length ≤ 63 ∧ ∀ H', Q (.bl true) H'
theorem ints_Rps {K : PySem.W.Frag} {H : Hp} {m : List Addr} : ∀ ns : List Int, Rps K H m (ns.map D.int) (ns.map V.int)
  | [] => by simp [Rps]
  | n :: ns => by
    simp only [List.map_cons]; rw [Rps]
    exact ⟨_, _, rfl, by rw [Rp], ints_Rps ns⟩
theorem law_ok {i : Nat} {fi : FnIR} (L : Lv W k) (hi : W.pr.fns[i]? = some fi) (hp : (W.ps i).length = 1) (h : ∀ ns : List Int, ns.length ≤ 63 → ∃ st, W.pr.call W.F k i [.fl (ns.map D.int)] [] = .ok (.bl true) st) :
    FnOk W.P W.w W.K W.mg W.base (L2.CX W.P W.w) (4 * k + 1) (W.fa i) (W.fd i) (W.ps i) (spLaw W.T W.K) := by
  refine (L i fi hi).imp fun vs H Q E hs => ?_
  obtain ⟨a, ns, rfl, ho, hq, hl, q⟩ := hs
  obtain ⟨st, hst⟩ := h ns hl
  refine ⟨[], [], [.fl (ns.map D.int)], ⟨rfl, List.nodup_nil, fun i c a h => by simp at h, fun p hp => ⟨#[], ho p hp, True.intro, fun pos cv hc => ?_⟩⟩, ?_, by rw [hp]; rfl, ?_⟩
  · have z : codeAmong pos [] = some cv := hc
    simp [codeAmong] at z
  · rw [Rps]
    refine ⟨.ref a, [], rfl, ?_, by rw [Rps]⟩
    rw [Rp]
    exact ⟨a, _, rfl, hq, ints_Rps ns⟩
  · rw [hst]
    intro H' m' _ _ v rv
    rw [Rp] at rv; subst rv
    exact q H'
end
end Z
/-! own exceptions whose __init__ says Base.__init__(self, text); self.f = p -/
namespace Z
open PySem L2 PySem.Spec PyProof.Rows
/-- what the written part says of the base class B, by the name b -/
structure BaseC (X : Cx) (b : Str) (B : Addr) : Prop where
  mg : X.mg b = some (.ref B)
  sp : PySem.W.specialIn X.K (.ref B) "__getattribute__" = some (some (.builtin "type.__getattribute__"))
  rd : PySem.W.readsIn X.K B (.type "type") = true
  fi : PySem.W.findCls X.K (.ref B) (.type "type") "__init__" = some (.val (.builtin "ValueError.__init__"))
section
variable {X : Cx} {o e : Expr} {es : List Expr} {ta : TA} {b : Str} {B : Addr} {p1 p2 pos : Pos}
theorem pe_ownInit {pl : Sem Bool} (hg : Gl X b) (hb : BaseC X b B) (hdb : (b == ("__debug__" : Str)) = false) (ha : PA X (e :: es) ta)
    (hc : eval (.Call (.Attribute (.Name b p1) "__init__" p2) (e :: es) [] pos) X.env = (do
      let ov ← eval (.Name b p1) X.env
      standAt p2.atName
      let (f, first) ← holding [ov] (getMethod ov "__init__" pl)
      callWith pos f first (backTo pos (starEach (e :: es) X.env)) (backToKw pos (keywordEach [] X.env))))
    (he : starEach (e :: es) X.env = (false, eval e X.env) :: starEach es X.env) (hpl : (backTo pos (starEach es X.env)).any (·.1) = false) :
    PE X (.Call (.Attribute (.Name b p1) "__init__" p2) (e :: es) [] pos) (tVeI X.K ta) := by
  refine ⟨fun pins s σ H Q I h => ?_⟩
  refine PySem.W.methodCall_KW (ld_glob I hg hb.mg ?_ hdb) hc
  refine PySem.W.method_cls I.kIn hb.sp ?_
  refine PySem.W.cls_value I.kIn hb.rd hb.fi (by decide +kernel) ?_
  show wpAny _ _ (callWith pos (Value.builtin "ValueError.__init__") [] (backTo pos (starEach (e :: es) X.env)) []) _ _ _
  refine PyProof.Rows.callWith_method1 (thn (ha.run pos pins _ σ H _ (I.tok _) h) fun us s1 ⟨vs, H1, I1, r1, a, C, ws, ev, hl, T, ea, q⟩ => ?_) he hpl
  subst ev
  cases r1 with
  | @cons _ u0 _ ur ra rw' =>
    obtain rfl : u0 = Value.ref a := ra
    have hlen : ur.length ≤ sizeLine := by
      rw [← Paired.length rw', sizeLine_eq]
      omega
    exact oinit_ok T I1 ea hlen fun s' J => ⟨.non, H1, J, rfl, q⟩
end
end Z
/-! an own __init__ that says Base.__init__(self, text); self.f = p -/
namespace Z
open PySem L2 PySem.Spec PyProof.Rows
/-- its text -/
def iniB (b f : Str) (s p : Str) : List Stmt → Bool
  | [.Expr (.Call (.Attribute (.Name b' _) i ap) [.Name s' _, .Constant (.str _) _ _] [] cp) _, .Assign [.Attribute (.Name s2 _) f' _] (.Name p' _) _] =>
    decide (b' = b) && decide (i = "__init__") && decide (s' = s) && decide (s2 = s) && decide (f' = f) && decide (p' = p) && (ap.endLine == cp.line)
  | _ => false
section
variable {P : Program} {w : World} {K : PySem.W.Frag} {mg : Str → Option Value} {base : Heap}
theorem ini_ok {x qual : Str} {st : Stmt} {fI : Addr} {fd : FuncData} {b f s p : Str} {B C : Addr} (F : Fun K x qual st fI fd) (S : FnScope [s, p] [s, p] (defScope st)) (h : iniB b f s p (defBody st) = true)
    (hv : Vis (defScope st) s) (hw : Vis (defScope st) p) (hg : (defScope st).names.lookup b = some .globalImplicit) (ds : (s == ("__debug__" : Str)) = false) (dp : (p == ("__debug__" : Str)) = false) (cs : (s == ("__classdict__" : Str)) = false) (cp : (p == ("__classdict__" : Str)) = false) (db : (b == ("__debug__" : Str)) = false)
    (hmg : mg b = some (.ref B)) (sp : PySem.W.specialIn K (.ref B) "__getattribute__" = some (some (.builtin "type.__getattribute__"))) (rd : PySem.W.readsIn K B (.type "type") = true) (fi : PySem.W.findCls K (.ref B) (.type "type") "__init__" = some (.val (.builtin "ValueError.__init__")))
    (T : OexC K C) (hno : PySem.W.findIn K (.ref C) f = some none) : FnOk P w K mg base (L2.CX P w) 1 fI fd [s, p] (spI C f) := by
  refine Fun.okX (k := 0) F S (fun vs H Q E h => ?_) (fun cdv A outer s0 H vs Q E hr hq => ?_)
  · obtain ⟨a, v, rfl, _⟩ := h; rfl
  obtain ⟨a, v, rfl, ha, hq⟩ := hq
  unfold iniB at h
  split at h
  · rename_i b' p1 i ap s' p2 t j p3 cp0 p4 s2 p5 f' p6 p' p7 p8 hb
    simp only [Bool.and_eq_true, decide_eq_true_eq] at h
    obtain ⟨⟨⟨⟨⟨⟨rfl, rfl⟩, rfl⟩, rfl⟩, rfl⟩, rfl⟩, hl⟩ := h
    rw [hb]
    refine ⟨_, pss_cons (ps_expr (pe_ownInit (ta := tCons (tVar 0) (tCons (tC (.str t)) tNil)) hg ⟨hmg, sp, rd, fi⟩ db (pa_cons (pe_var (i := 0) rfl hv ds cs) (pa_cons pe_str pa_nil) rfl) (meth_form (by rfl) hl rfl (by simp)) rfl rfl) rfl) (pss_one (ps_ost (pe_var (i := 0) rfl hv ds cs) (pe_var (i := 1) rfl hw dp cp))), ?_⟩
    exact ⟨.ref a, rfl, a, C, [.str t], rfl, by simp, T, ha, v, rfl, .ref a, rfl, a, C, rfl, T, hno, .inl ⟨ha, fun dx n ne => hq dx n ne⟩⟩
  · cases h
end
end Z
/-! xs.count(d) of data -/
namespace Z
open PySem L2 PySem.Spec PyProof.Rows
def rCountD (K : PySem.W.Frag) : V → List V → Hp → VK → Prop := fun x xs H Q => ∃ (a : Addr) (y : V) (d : PyData) (ds : List PyData), x = V.ref a ∧ xs = [y] ∧ Dp K H (V.ref a) (.list ds) ∧ Dp K H y d ∧
  SeqAt.shaped (.list ds) = true ∧ SeqAt.shaped d = true ∧ Q (.int ((ds.countP fun z => PyData.eqv z d : Nat) : Int)) H
theorem mt_countD {X : Cx} (hu : X.A.units + 65 < cLine) : MtR X "list.count" (rCountD X.K) := by
  intro pins s σ H x xs v us Q I rx rxs h
  obtain ⟨a, y, d, ds, rfl, rfl, hl, hy, sl, sd, q⟩ := h
  cases rx
  obtain ⟨uy, rfl, ry⟩ := rxs.one
  obtain ⟨bs, r1⟩ := Dp.reads I d y uy hy ry
  have lays : PyData.canLayAll0 ds = true := SeqAt.canLay_of_shaped sl
  have room : X.A.units + 1 + min (PyData.depthAll ds) d.depth < cLine := room_in_shaped sd hu
  cases hl with
  | lst hs ha =>
    obtain ⟨its, rv, ⟨⟨cls, dd, data, sls⟩, n, ho, hc, hdn, hdt⟩, hlen⟩ := I.list hs
    dsimp only at hc hdt
    subst hc hdt
    obtain ⟨as, h4⟩ := Dp.readsAll I ds _ its ha rv
    have e1 : its.map (SeqAt.readOf s.heap) = ds := SeqAt.readsAll_map ds its as lays h4
    refine call_meets PySem.F.slot_list_count ⟨_, ho, rfl⟩ PySem.F.entry_list_count (PySem.F.args_list_count_2 _ _)
      (SeqAt.list_countAt a its.toArray n dd sls uy (fun u => PyData.eqv (SeqAt.readOf s.heap u) d)) ⟨ho, SeqAt.items_eqAt (vs := its.toArray) (show ReadsAll s.heap its.toArray.toList ds as from h4) r1 lays (SeqAt.canLay_of_shaped sd) room, ?_⟩
    have e2 : its.toArray.toList.countP (fun u => PyData.eqv (SeqAt.readOf s.heap u) d) = ds.countP fun z => PyData.eqv z d := by
      rw [← e1, List.countP_map]; rfl
    rw [e2]
    exact ⟨.int _, H, I.tok _, ⟨s.toks, rfl⟩, q⟩
/-- isinstance(e, c), e the exception that the suite holds, with its fields or without -/
def rIsZ (K : PySem.W.Frag) (D : Addr) (d : Option Addr) (a : Addr) : List V → Hp → VK → Prop := fun xs H Q => ∃ (c : V) (cv : Value) (b : Bool), xs = [.ref a, c] ∧ (∀ u, RelV c u → u = cv) ∧ PySem.W.kitOne K (.ref D) cv = some b ∧
  (d = none ∨ ∃ dd fs, d = some dd ∧ H dd = some (.xd fs)) ∧ Q (.bl b) H
theorem call_isZ {X : Cx} {a D : Addr} {d : Option Addr} {oe : Obj} {pn : List (Addr × Obj)} (C : ExcC X.K D) (hz : Zc (.ref D) d oe) (hf : ∃ vs, oe.data = .fields vs) : CallR (X.suite a ((a, oe) :: pn)) (.builtin "isinstance") (rIsZ X.K D d a) := by
  intro pins s σ H xs us Q I r h
  obtain ⟨c, cv, b, rfl, hcv, e, hd, q⟩ := h
  cases r with
  | cons rx rr =>
    cases rr with
    | cons rt rr =>
      cases rr
      cases rx
      have ec := hcv _ rt
      subst ec
      obtain ⟨hget, _⟩ := I.pin (a, oe) (List.mem_append_left _ List.mem_cons_self)
      obtain ⟨vs, hv⟩ := hf
      have J : ∃ od, PySem.W.InstAt s.heap a oe D od := by
        have hn : PySem.W.notCls oe = true := by unfold PySem.W.notCls; rw [hv] <;> rfl
        rcases hd with e0 | ⟨dd, fs, e0, ed⟩
        · exact ⟨none, hget, hz.1, hn, by rw [hz.2, e0]; trivial⟩
        · have hx : ObjOk X.prog X.w H s.heap dd (.xd fs) := I.hok dd _ ed
          obtain ⟨mA, hns, hr⟩ := hx
          obtain ⟨od, ho, hl⟩ := lookIn_ns hns
          exact ⟨some od, hget, hz.1, hn, by rw [hz.2, e0]; exact ho⟩
      obtain ⟨od, J⟩ := J
      have hcl : (PySem.W.clsIn X.K D).isSome = true := by
        obtain ⟨cd, hc, _⟩ := PySem.W.any_some C.hd
        rw [hc]; rfl
      exact PySem.W.kia_one (PySem.W.kitx_exc hcl C.hg C.hk C.hs C.ha C.hn C.ht C.hm) I.kIn J e (fun z => nomatch z) fun tk => ⟨.bl b, H, I.kept (t' := tk) fun _ _ z => z, rfl, q⟩
/-- isinstance(e, c) for each of the names -/
def isB (sc : Scope) (en : Str) : List Expr → List Str → Bool
  | [], [] => true
  | .Call (.Name i _) [.Name e _, .Name nm _] [] _ :: es, n :: ns => decide (i = "isinstance") && decide (e = en) && decide (nm = n) && glB sc nm && isB sc en es ns
  | _, _ => false
section
variable {X : Cx} {a D : Addr} {d : Option Addr} {oe : Obj} {pn : List (Addr × Obj)} {i : Nat} {en : Str}
theorem gl_B {sc : Scope} {x : Str} (h : glB sc x = true) (hs : X.env.scope = sc) : Gl X x ∧ (x == ("__debug__" : Str)) = false := by
  unfold glB at h
  rw [Bool.and_eq_true, decide_eq_true_eq, decide_eq_true_eq] at h
  refine ⟨?_, h.2⟩
  show X.env.scope.names.lookup x = _
  rw [hs]; exact h.1
/-- the caught exception's fields stand -/
def Fld (d : Option Addr) (H : Hp) : Prop := d = none ∨ ∃ dd fs, d = some dd ∧ H dd = some (.xd fs)
theorem pe_isZ (C : ExcC X.K D) (hz : Zc (.ref D) d oe) (hf : ∃ vs, oe.data = .fields vs) (hN : X.N[i]? = some en) (hv : Vis X.env.scope en) (de : (en == ("__debug__" : Str)) = false) (ce : (en == ("__classdict__" : Str)) = false) (gi : Gl X "isinstance") (mi : X.mg "isinstance" = none)
    {x : Expr} {c : V} {cv : Value} {b : Bool} {p p1 pos : Pos} (hx : PE (X.suite a ((a, oe) :: pn)) x (tC c)) (hs : isStar x = false) (hcv : ∀ u, RelV c u → u = cv) (hk : PySem.W.kitOne X.K (.ref D) cv = some b) :
    PE (X.suite a ((a, oe) :: pn)) (.Call (.Name "isinstance" p) [.Name en p1, x] [] pos) (fun σ H Q => σ[i]? = some (some (.ref a)) ∧ Fld d H ∧ Q (.bl b) H) := by
  refine PE.weak (pe_callB (call_isZ C hz hf) gi mi (by decide +kernel) (pa_cons (pe_var (i := i) hN hv de ce) (pa_cons hx pa_nil (star_cons hs)) rfl) (by decide) (by decide) rfl (by rw [star_cons hs]; rfl)) fun σ H Q w => ?_
  obtain ⟨h1, h2, h3⟩ := w
  exact ⟨.ref a, h1, c, cv, b, rfl, hcv, hk, h2, h3⟩
theorem pa_isZ (C : ExcC X.K D) (hz : Zc (.ref D) d oe) (hf : ∃ vs, oe.data = .fields vs) (hN : X.N[i]? = some en) (hv : Vis X.env.scope en) (de : (en == ("__debug__" : Str)) = false) (ce : (en == ("__classdict__" : Str)) = false) (gi : Gl X "isinstance") (mi : X.mg "isinstance" = none) :
    ∀ (es : List Expr) (ns : List (Str × Bool)), isB X.env.scope en es (ns.map (·.1)) = true → (∀ p ∈ ns, ∃ C', X.mg p.1 = some (.ref C') ∧ PySem.W.kitOne X.K (.ref D) (.ref C') = some p.2) →
      PA (X.suite a ((a, oe) :: pn)) es (fun σ H Q => σ[i]? = some (some (.ref a)) ∧ Fld d H ∧ Q (ns.map fun p => V.bl p.2) H) := by
  intro es
  induction es with
  | nil =>
    intro ns h hk
    cases ns with
    | nil => exact PA.weak pa_nil fun σ H Q w => w.2.2
    | cons n ns => cases h
  | cons e es ih =>
    intro ns h hk
    cases ns with
    | nil => unfold isB at h; simp at h
    | cons n ns =>
      rw [List.map_cons] at h
      unfold isB at h
      split at h
      · rename_i h1 h2; cases h1
      · rename_i i' p1 e' p2 nm p3 p4 es' n' ns' h1 h2
        injection h1 with h1 h3
        injection h2 with h2 h4
        subst h1 h3 h2 h4
        simp only [Bool.and_eq_true, decide_eq_true_eq] at h
        obtain ⟨⟨⟨⟨e1, e2⟩, e3⟩, g⟩, h⟩ := h
        obtain ⟨C', m1, m2⟩ := hk n List.mem_cons_self
        rw [← e3] at m1
        obtain ⟨g1, g2⟩ := gl_B (X := X) g rfl
        have ih := ih ns h fun p hp => hk p (List.mem_cons_of_mem _ hp)
        have q := pe_isZ (p := p1) (p1 := p2) (pos := p4) (a := a) (pn := pn) C hz hf hN hv de ce gi mi (pe_glob (pos := p3) (u := .ref C') (v := .ref C') g1 m1 rfl g2) rfl (fun u r => r) m2
        rw [e1, e2]
        refine PA.weak (pa_cons q ih rfl) fun σ H Q w => ?_
        exact ⟨w.1, w.2.1, w.1, w.2.1, w.2.2⟩
      · cases h
end
end Z
/-! the laws' def that tells of a work: its text, and that it tells so -/
namespace Z
open PySem L2 PySem.Spec PyProof.Rows
def tW : List Str := ["BadTree", "BadBook", "BadPlace", "TooBig", "TooMany", "NotKeeping", "BadState", "BadPairs", "BadText"]
def tF (j : Nat) : Option Str := if j = 0 then some "place" else if j = 1 ∨ j = 5 ∨ j = 8 then some "number" else none
def tN (wn : Str) : List Str := ["_law_work", "e", "_law_kinds", "_law_words", wn]
def consB : List Expr → List Str → Bool
  | [], [] => true
  | .Constant (.str s) _ _ :: es, w :: ws => decide (s = w) && consB es ws
  | _, _ => false
def t0B (sc : Scope) : Stmt → Bool
  | .Assign [.Name x _] (.List es _) _ => decide (x = "_law_kinds") && isB sc "e" es (tW.take 4)
  | _ => false
def t1B (sc : Scope) (ns : List Str) : Stmt → Bool
  | .Assign [.Name x _] (.BinOp (.Name y _) .Add (.List es _) _) _ => decide (x = "_law_kinds") && decide (y = "_law_kinds") && isB sc "e" es ns
  | _ => false
def otherB : List Stmt → Bool
  | [.Return (some (.Tuple [.Constant (.str _) _ _, .Constant (.int _) _ _] _ _)) _] => true
  | _ => false
def t3B : Stmt → Bool
  | .If (.BoolOp .Or [.Compare (.Call (.Attribute (.Name k _) m ap) [.Constant (.bool true) _ _] [] cp) [.NotEq] [.Constant (.int 1) _ _] _, .UnaryOp .Not (.Call (.Name i _) [.Name e _, .Name v _] [] _) _] _) b [] _ =>
    decide (k = "_law_kinds") && decide (m = "count") && (ap.endLine == cp.line) && decide (i = "isinstance") && decide (e = "e") && decide (v = "ValueError") && otherB b
  | _ => false
def t4B : Stmt → Bool
  | .Assign [.Name x _] (.List es _) _ => decide (x = "_law_words") && consB es tW
  | _ => false
def t5B (wn : Str) : Stmt → Bool
  | .Assign [.Name x _] (.Subscript (.Name w _) (.Call (.Attribute (.Name k _) m ap) [.Constant (.bool true) _ _] [] cp) _) _ =>
    decide (x = wn) && decide (w = "_law_words") && decide (k = "_law_kinds") && decide (m = "index") && (ap.endLine == cp.line)
  | _ => false
def t6B (wn : Str) : Stmt → Bool
  | .If (.Compare (.Name x _) [.Eq] [.Constant (.str s) _ _] _) [.Return (some (.Tuple [.Name y _, .Attribute (.Name e _) f _] _ _)) _] [] _ =>
    decide (x = wn) && decide (s = "BadTree") && decide (y = wn) && decide (e = "e") && decide (f = "place")
  | _ => false
def t7B (wn : Str) : Stmt → Bool
  | .Return (some (.Tuple [.Name x _, .IfExp (.Compare (.Name y _) [.In] [.Tuple es k tp] _) (.Attribute (.Name e _) f _) (.Constant (.int 0) _ _) _] _ _)) _ =>
    decide (x = wn) && decide (y = wn) && decide (e = "e") && decide (f = "number") && consB es ["BadBook", "NotKeeping", "BadText"] && (!behindInMarks .In (.Tuple es k tp))
  | _ => false
def suiteB (sc : Scope) (wn : Str) : List Stmt → Bool
  | [s0, s1, s2, s3, s4, s5, s6, s7] => t0B sc s0 && t1B sc ["TooMany", "NotKeeping", "BadState"] s1 && t1B sc ["BadPairs", "BadText"] s2 && t3B s3 && t4B s4 && t5B wn s5 && t6B wn s6 && t7B wn s7
  | _ => false
def bodyB (sc : Scope) (wn : Str) : List Stmt → Bool
  | [.Try [.Return (some (.Call (.Name a _) [] [] _)) _] [.ExceptHandler (some (.Name x _)) (some n) (s0 :: s) _] [] [] _] => decide (a = "_law_work") && decide (x = "TellError") && decide (n = "e") && suiteB sc wn (s0 :: s)
  | _ => false
/-- what is known of a class that may be told -/
structure TC (K : PySem.W.Frag) (E : Nat → Addr) (TA : Addr) (C : Addr) (j : Nat) : Prop where
  lt : j < 9
  ex : ExcC K C
  is : ∀ i, i < 9 → PySem.W.kitOne K (.ref C) (.ref (E i)) = some (decide (i = j))
  ve : PySem.W.kitOne K (.ref C) (.type "ValueError") = some true
  te : PySem.W.exmOne K (.ref C) (.ref TA) = some true
  xf : XfC K C
  np : PySem.W.findIn K (.ref C) "place" = some none
  nn : PySem.W.findIn K (.ref C) "number" = some none
def rCW (W : Wd) : R2 := rBin W .add
def tsT (K : PySem.W.Frag) (E : Nat → Addr) (TA : Addr) (a : Addr) (cls : Value) (d : Option Addr) : TS := fun D σ H => (σ.length = 5 → σ[1]? = some (some (.ref a))) ∧ ∃ (C : Addr) (j : Nat) (v : V), cls = .ref C ∧ TC K E TA C j ∧
  (tF j = none → d = none ∧ v = .int 0) ∧ (∀ f, tF j = some f → ∃ dd, d = some dd ∧ H dd = some (.xd [(f, v)])) ∧
  ∀ H'' p, (∀ b o, H b = some o → H'' b = some o) → H'' p = none → D.rt (.ref p) (upd H'' p (.tup [.str (tW.getD j ""), v]))
section
variable {X : Cx}
theorem pa_cons_of : ∀ {es : List Expr} {ws : List Str}, consB es ws = true → PA X es (fun _ H Q => Q (ws.map V.str) H)
  | [], [], _ => PA.weak pa_nil fun σ H Q w => w
  | [], _ :: _, h => by cases h
  | e :: es, [], h => by unfold consB at h; simp at h
  | e :: es, w :: ws, h => by
    unfold consB at h
    split at h
    · rename_i h1 h2; cases h1
    · rename_i s j p es' w' ws' h1 h2
      injection h1 with h1 h3
      injection h2 with h2 h4
      subst h1 h3 h2 h4
      rw [Bool.and_eq_true, decide_eq_true_eq] at h
      obtain ⟨rfl, h⟩ := h
      exact PA.weak (pa_cons pe_str (pa_cons_of h) rfl) fun σ H Q w => w
    · cases h
end
theorem dpBools {K : PySem.W.Frag} {H : Hp} : ∀ bs : List Bool, DpAll K H (bs.map V.bl) (bs.map PyData.bool)
  | [] => .nil
  | b :: bs => .cons (.bl b) (dpBools bs)
theorem upd_keep {H : Hp} {p : Addr} {o : HO} (hp : H p = none) : ∀ b u, H b = some u → upd H p o b = some u := fun b u h => by rw [upd_ne (ne_of_none h hp)]; exact h

def bsJ (j : Nat) : List Bool := [decide (0 = j), decide (1 = j), decide (2 = j), decide (3 = j), decide (4 = j), decide (5 = j), decide (6 = j), decide (7 = j), decide (8 = j)]
theorem cntJ : ∀ j, j < 9 → (((bsJ j).map PyData.bool).countP fun z => PyData.eqv z (.bool true)) = 1 := by decide
theorem shpJ : ∀ j, j < 9 → SeqAt.shaped (.list ((bsJ j).map PyData.bool)) = true := by decide
theorem nine {P : Nat → Prop} (h : P 0 ∧ P 1 ∧ P 2 ∧ P 3 ∧ P 4 ∧ P 5 ∧ P 6 ∧ P 7 ∧ P 8) (j : Nat) (hj : j < 9) : P j := by
  obtain ⟨h0, h1, h2, h3, h4, h5, h6, h7, h8⟩ := h
  match j, hj with
  | 0, _ => exact h0
  | 1, _ => exact h1
  | 2, _ => exact h2
  | 3, _ => exact h3
  | 4, _ => exact h4
  | 5, _ => exact h5
  | 6, _ => exact h6
  | 7, _ => exact h7
  | 8, _ => exact h8
theorem idxJ : ∀ j, j < 9 → ((bsJ j).map PyData.bool)[j]? = some (.bool true) := nine ⟨rfl, rfl, rfl, rfl, rfl, rfl, rfl, rfl, rfl⟩
theorem befJ : ∀ j, j < 9 → ∀ m, m < j → ∀ z', ((bsJ j).map PyData.bool)[m]? = some z' → PyData.eqv z' (.bool true) = false := by
  intro j hj m hm z' hz
  have h : (bsJ j)[m]? = some false := by
    have : ∀ j, j < 9 → ∀ m, m < j → (bsJ j)[m]? = some false := by decide
    exact this j hj m hm
  rw [List.getElem?_map, h] at hz
  cases hz
  rfl
theorem strW : ∀ j, j < 9 → PyData.strOk (tW.getD j "") = true := by decide +kernel
theorem words_at : ∀ j : Nat, j < 9 → atI (tW.map V.str) (j : Int) = some (V.str (tW.getD j "")) := nine ⟨rfl, rfl, rfl, rfl, rfl, rfl, rfl, rfl, rfl⟩
/-- where the told text stands -/
structure SuOk (K : PySem.W.Frag) (mg : Str → Option Value) (E : Nat → Addr) (wn : Str) (sc : Scope) : Prop where
  nd : (tN wn).Nodup
  loc : ∀ x ∈ tN wn, sc.names.lookup x = some .local ∧ (x == ("__debug__" : Str)) = false ∧ (x == ("__classdict__" : Str)) = false
  gi : sc.names.lookup ("isinstance" : Str) = some .globalImplicit
  gv : sc.names.lookup ("ValueError" : Str) = some .globalImplicit
  mi : mg "isinstance" = none
  mv : mg "ValueError" = none
  mW : ∀ i, i < 9 → mg (tW.getD i "") = some (.ref (E i))
section
variable {X : Cx} {E : Nat → Addr} {TA : Addr} {wn : Str} {a : Addr} {oe : Obj} {cls : Value} {d : Option Addr} {pn : List (Addr × Obj)}
theorem suite_ok (S : SuOk X.K X.mg E wn X.env.scope) (hN : X.N = tN wn) (hu : X.A.units + 100 < cLine) (hz : Zc cls d oe) (hf : ∃ vs, oe.data = .fields vs) {ss : List Stmt} (h : suiteB X.env.scope wn ss = true) :
    PSs (X.suite a ((a, oe) :: pn)) ss (tsT X.K E TA a cls d) := by
  unfold suiteB at h
  split at h
  · rename_i s0 s1 s2 s3 s4 s5 s6 s7
    simp only [Bool.and_eq_true] at h
    obtain ⟨⟨⟨⟨⟨⟨⟨c0, c1⟩, c2⟩, c3⟩, c4⟩, c5⟩, c6⟩, c7⟩ := h
    refine ⟨fun pins s σ H D I h => ?_⟩
    obtain ⟨h1, C, j, v, rfl, T, m1, m2, q⟩ := h
    have hl : σ.length = 5 := by
      have e := I.len
      have e2 : (X.suite a ((a, oe) :: pn)).N = tN wn := hN
      rw [e2] at e
      exact e
    have h1 := h1 hl
    -- names
    have vis : ∀ x ∈ tN wn, Vis X.env.scope x := fun x hx => .inl (S.loc x hx).1
    have at0 : ∀ (i : Nat) (x : Str), (tN wn)[i]? = some x → X.N[i]? = some x := fun i x e => by rw [hN]; exact e
    have var : ∀ (i : Nat) (x : Str) (p : Pos), (tN wn)[i]? = some x → PE (X.suite a ((a, oe) :: pn)) (.Name x p) (tVar i) := fun i x p e => by
      have m := List.mem_of_getElem? e
      exact pe_var (at0 i x e) (vis x m) (S.loc x m).2.1 (S.loc x m).2.2
    have tgt : ∀ (i : Nat) (x : Str) (p : Pos), (tN wn)[i]? = some x → PG (X.suite a ((a, oe) :: pn)) (.Name x p) (gName i) := fun i x p e => by
      have m := List.mem_of_getElem? e
      exact pg_name (by show X.N.Nodup; rw [hN]; exact S.nd) (at0 i x e) (.inl (S.loc x m).1) (.inr (S.loc x m).1)
    have hue : X.A.units + 65 < cLine := by omega
    let n0 : List (Str × Bool) := [("BadTree", decide (0 = j)), ("BadBook", decide (1 = j)), ("BadPlace", decide (2 = j)), ("TooBig", decide (3 = j))]
    let n1 : List (Str × Bool) := [("TooMany", decide (4 = j)), ("NotKeeping", decide (5 = j)), ("BadState", decide (6 = j))]
    let n2 : List (Str × Bool) := [("BadPairs", decide (7 = j)), ("BadText", decide (8 = j))]
    have f0 : ∀ p ∈ n0, ∃ C', X.mg p.1 = some (.ref C') ∧ PySem.W.kitOne X.K (.ref C) (.ref C') = some p.2 := fun p hp => by
      simp only [n0, List.mem_cons, List.not_mem_nil, or_false] at hp
      rcases hp with rfl | rfl | rfl | rfl
      · exact ⟨E 0, S.mW 0 (by decide), T.is 0 (by decide)⟩
      · exact ⟨E 1, S.mW 1 (by decide), T.is 1 (by decide)⟩
      · exact ⟨E 2, S.mW 2 (by decide), T.is 2 (by decide)⟩
      · exact ⟨E 3, S.mW 3 (by decide), T.is 3 (by decide)⟩
    have f1 : ∀ p ∈ n1, ∃ C', X.mg p.1 = some (.ref C') ∧ PySem.W.kitOne X.K (.ref C) (.ref C') = some p.2 := fun p hp => by
      simp only [n1, List.mem_cons, List.not_mem_nil, or_false] at hp
      rcases hp with rfl | rfl | rfl
      · exact ⟨E 4, S.mW 4 (by decide), T.is 4 (by decide)⟩
      · exact ⟨E 5, S.mW 5 (by decide), T.is 5 (by decide)⟩
      · exact ⟨E 6, S.mW 6 (by decide), T.is 6 (by decide)⟩
    have f2 : ∀ p ∈ n2, ∃ C', X.mg p.1 = some (.ref C') ∧ PySem.W.kitOne X.K (.ref C) (.ref C') = some p.2 := fun p hp => by
      simp only [n2, List.mem_cons, List.not_mem_nil, or_false] at hp
      rcases hp with rfl | rfl
      · exact ⟨E 7, S.mW 7 (by decide), T.is 7 (by decide)⟩
      · exact ⟨E 8, S.mW 8 (by decide), T.is 8 (by decide)⟩
    have isZ : ∀ (es : List Expr) (ns : List (Str × Bool)), isB X.env.scope "e" es (ns.map (·.1)) = true → (∀ p ∈ ns, ∃ C', X.mg p.1 = some (.ref C') ∧ PySem.W.kitOne X.K (.ref C) (.ref C') = some p.2) →
        PA (X.suite a ((a, oe) :: pn)) es (fun σ H Q => σ[1]? = some (some (.ref a)) ∧ Fld d H ∧ Q (ns.map fun p => V.bl p.2) H) := fun es ns hb hk =>
      pa_isZ (X := X) (i := 1) (en := "e") T.ex hz hf (at0 1 "e" rfl) (vis "e" (by simp [tN])) (by decide) (by decide) S.gi S.mi es ns hb hk
    have p0 : ∃ t0, PS (X.suite a ((a, oe) :: pn)) s0 t0 ∧ ∀ D σ H, (σ[1]? = some (some (.ref a)) ∧ Fld d H ∧ ∀ p, H p = none → D.nx (σ.set 2 (some (.ref p))) (upd H p (.lst (n0.map fun p => V.bl p.2)))) → t0 D σ H := by
      unfold t0B at c0
      split at c0
      · simp only [Bool.and_eq_true, decide_eq_true_eq] at c0
        obtain ⟨rfl, c0⟩ := c0
        exact ⟨_, ps_asg (pe_lst (isZ _ n0 c0 f0)) (tgt 2 _ _ rfl), fun D σ H h => ⟨h.1, h.2.1, by rw [sizeLine_eq]; simp [n0], fun p hp => h.2.2 p hp⟩⟩
      · cases c0
    have pcat : ∀ (s : Stmt) (ns : List (Str × Bool)), t1B X.env.scope (ns.map (·.1)) s = true → (∀ p ∈ ns, ∃ C', X.mg p.1 = some (.ref C') ∧ PySem.W.kitOne X.K (.ref C) (.ref C') = some p.2) → ns.length < 10 →
        ∃ t0, PS (X.suite a ((a, oe) :: pn)) s t0 ∧ ∀ D σ H, (σ[1]? = some (some (.ref a)) ∧ Fld d H ∧ ∃ l xs, σ[2]? = some (some (.ref l)) ∧ H l = some (.lst xs) ∧ xs.length < 10 ∧
          ∀ p p2, H p = none → upd H p (.lst (ns.map fun p => V.bl p.2)) p2 = none → D.nx (σ.set 2 (some (.ref p2))) (upd (upd H p (.lst (ns.map fun p => V.bl p.2))) p2 (.lst (xs ++ ns.map fun p => V.bl p.2)))) → t0 D σ H := by
      intro s ns c hk hlen
      unfold t1B at c
      split at c
      · simp only [Bool.and_eq_true, decide_eq_true_eq] at c
        obtain ⟨⟨rfl, rfl⟩, c⟩ := c
        refine ⟨_, ps_asg (pe_op op_cat (var 2 _ _ rfl) (pe_lst (isZ _ ns c hk))) (tgt 2 _ _ rfl), fun D σ H h => ?_⟩
        obtain ⟨g1, g2, l, xs, g3, g4, g5, g6⟩ := h
        refine ⟨_, g3, g1, g2, by rw [sizeLine_eq]; simp; omega, fun p hp => ?_⟩
        exact ⟨l, p, xs, _, rfl, rfl, upd_keep hp _ _ g4, upd_same, by rw [sizeLine_eq]; simp; omega, fun p2 hp2 => g6 p p2 hp hp2⟩
      · cases c
    have p3 : ∃ t0, PS (X.suite a ((a, oe) :: pn)) s3 t0 ∧ ∀ D σ H, (σ[1]? = some (some (.ref a)) ∧ Fld d H ∧ ∃ l, σ[2]? = some (some (.ref l)) ∧ H l = some (.lst ((bsJ j).map V.bl)) ∧ D.nx σ H) → t0 D σ H := by
      unfold t3B at c3
      split at c3
      · rename_i k kp m ap b1 b2 cp i1 i2 cmp i ip e ep v' vp ip2 np bp b ifp
        simp only [Bool.and_eq_true, decide_eq_true_eq] at c3
        obtain ⟨⟨⟨⟨⟨⟨rfl, rfl⟩, hline⟩, rfl⟩, rfl⟩, rfl⟩, ho⟩ := c3
        have cnt := pe_bm (apos := ap) (cpos := cp) (X := X.suite a ((a, oe) :: pn)) PySem.F.plainAttrs_list PySem.F.slot_list_count PySem.F.type_list_count (mt_countD hue) (var 2 "_law_kinds" kp rfl) (pa_cons (pe_bl (b := true) (j := b1) (pos := b2)) pa_nil) rfl rfl hline rfl rfl
        have isv := pe_isZ (X := X) (i := 1) (en := "e") (pn := pn) (p := ip) (p1 := ep) (pos := ip2) T.ex hz hf (at0 1 "e" rfl) (vis "e" (by simp [tN])) (by decide) (by decide) S.gi S.mi (pe_bltn (X := X.suite a ((a, oe) :: pn)) (x := "ValueError") (v := .ty "ValueError") (u := .type "ValueError") (pos := vp) S.gv S.mv (by decide +kernel) rfl) rfl (fun u r => r) T.ve
        have tst := pw_or (pos := bp) (pt_cmpR (pos := cmp) op_ne cnt (pe_int (i := 1) (j := i1) (pos := i2)) (by rfl)) (pw_or1 (pt_not (pos := np) (pt_val isv)))
        obtain ⟨to, hto⟩ : ∃ to, PSs (X.suite a ((a, oe) :: pn)) b to := by
          unfold otherB at ho
          split at ho
          · exact ⟨_, pss_one (ps_ret (pe_tup (pa_cons pe_str (pa_cons pe_int pa_nil))))⟩
          · cases ho
        refine ⟨_, ps_if tst.pt hto pss_nil, fun D σ H h => ?_⟩
        obtain ⟨g1, g2, l, g3, g4, g5⟩ := h
        refine ⟨_, g3, .inl ⟨rfl, _, .inl (.inl g4)⟩, ?_⟩
        refine ⟨l, .bl true, .bool true, _, rfl, rfl, .lst (.inl (.inl g4)) (dpBools _), .bl true, shpJ j T.lt, by rfl, ?_⟩
        rw [cntJ j T.lt]
        refine ⟨by rfl, false, by rfl, ?_⟩
        exact ⟨g1, g2, true, rfl, g5⟩
      · cases c3
    have p4 : ∃ t0, PS (X.suite a ((a, oe) :: pn)) s4 t0 ∧ ∀ D σ H, (∀ p, H p = none → D.nx (σ.set 3 (some (.ref p))) (upd H p (.lst (tW.map V.str)))) → t0 D σ H := by
      unfold t4B at c4
      split at c4
      · simp only [Bool.and_eq_true, decide_eq_true_eq] at c4
        obtain ⟨rfl, c4⟩ := c4
        exact ⟨_, ps_asg (pe_lst (pa_cons_of c4)) (tgt 3 _ _ rfl), fun D σ H h => ⟨by rw [sizeLine_eq]; simp [tW], fun p hp => h p hp⟩⟩
      · cases c4
    have p5 : ∃ t0, PS (X.suite a ((a, oe) :: pn)) s5 t0 ∧ ∀ D σ H, (∃ l w, σ[2]? = some (some (.ref l)) ∧ H l = some (.lst ((bsJ j).map V.bl)) ∧ σ[3]? = some (some (.ref w)) ∧ H w = some (.lst (tW.map V.str)) ∧ D.nx (σ.set 4 (some (.str (tW.getD j "")))) H) → t0 D σ H := by
      unfold t5B at c5
      split at c5
      · rename_i x xp w wp k kp m ap b1 b2 cp sp asp
        simp only [Bool.and_eq_true, decide_eq_true_eq] at c5
        obtain ⟨⟨⟨⟨rfl, rfl⟩, rfl⟩, rfl⟩, hline⟩ := c5
        have idx := pe_bm (apos := ap) (cpos := cp) (X := X.suite a ((a, oe) :: pn)) PySem.F.plainAttrs_list PySem.F.slot_list_index PySem.F.type_list_index (mt_indexD hue) (var 2 "_law_kinds" kp rfl) (pa_cons (pe_bl (b := true) (j := b1) (pos := b2)) pa_nil) rfl rfl hline rfl rfl
        refine ⟨_, ps_asg (pe_ix ix_list (var 3 "_law_words" wp rfl) idx (plainIx_of rfl)) (tgt 4 _ _ rfl), fun D σ H h => ?_⟩
        obtain ⟨l, w, g1, g2, g3, g4, g5⟩ := h
        refine ⟨_, g3, _, g1, .inl ⟨rfl, _, .inl (.inl g2)⟩, ?_⟩
        exact ⟨l, .bl true, .bool true, _, j, .bool true, rfl, rfl, .lst (.inl (.inl g2)) (dpBools _), .bl true, shpJ j T.lt, by rfl, idxJ j T.lt, by rfl, fun m z' hm hz' => befJ j T.lt m hm z' hz', w, _, _, _, rfl, rfl, .inl (.inl g4), words_at j T.lt, g5⟩
      · cases c5
    have p6 : ∃ t0, PS (X.suite a ((a, oe) :: pn)) s6 t0 ∧ ∀ D σ H, (σ[1]? = some (some (.ref a)) ∧ σ[4]? = some (some (.str (tW.getD j ""))) ∧ (j = 0 → ∃ dd, d = some dd ∧ H dd = some (.xd [("place", v)]) ∧ ∀ p, H p = none → D.rt (.ref p) (upd H p (.tup [.str (tW.getD j ""), v]))) ∧ (j ≠ 0 → D.nx σ H)) → t0 D σ H := by
      unfold t6B at c6
      split at c6
      · rename_i x xp s' s1' s2' cp y yp e ep f fp tk tp rp ifp
        simp only [Bool.and_eq_true, decide_eq_true_eq] at c6
        obtain ⟨⟨⟨⟨rfl, rfl⟩, rfl⟩, rfl⟩, rfl⟩ := c6
        have tst := pt_cmpR (pos := cp) op_eq (var 4 _ xp rfl) (pe_str (X := X.suite a ((a, oe) :: pn)) (x := "BadTree") (j := s1') (pos := s2')) (by rfl)
        have fld := pe_xf (X := X) (a := a) (pn := pn) (pos := fp) T.xf T.np hz hf (var 1 "e" ep rfl)
        refine ⟨_, ps_if tst (pss_one (ps_ret (pe_tup (pa_cons (var 4 _ yp rfl) (pa_cons fld pa_nil))))) pss_nil, fun D σ H h => ?_⟩
        obtain ⟨g1, g2, g3, g4⟩ := h
        refine ⟨_, g2, by rfl, _, rfl, ?_⟩
        by_cases hj : j = 0
        · subst hj
          obtain ⟨dd, e1, e2, e3⟩ := g3 rfl
          exact ⟨_, g2, _, g1, rfl, rfl, dd, _, v, e1, e2, rfl, by rw [sizeLine_eq]; simp, fun p hp => e3 p hp⟩
        · have hb : decide (V.str (tW.getD j "") = V.str "BadTree") = false := by
            have : ∀ j, j < 9 → j ≠ 0 → decide (V.str (tW.getD j "") = V.str "BadTree") = false := by decide
            exact this j T.lt hj
          rw [hb]
          exact g4 hj
      · cases c6
    have p7 : ∃ t0, PS (X.suite a ((a, oe) :: pn)) s7 t0 ∧ ∀ D σ H, (σ[1]? = some (some (.ref a)) ∧ σ[4]? = some (some (.str (tW.getD j ""))) ∧ (∀ f, tF j = some f → f = "number" ∧ ∃ dd, d = some dd ∧ H dd = some (.xd [("number", v)])) ∧ (tF j = none → v = .int 0) ∧
        ∀ p0 o p, H p0 = none → upd H p0 o p = none → D.rt (.ref p) (upd (upd H p0 o) p (.tup [.str (tW.getD j ""), v]))) → t0 D σ H := by
      unfold t7B at c7
      split at c7
      · rename_i x xp y yp es k tp cp e ep f fp i1 i2 ifp tk2 tp2 rp
        simp only [Bool.and_eq_true, decide_eq_true_eq] at c7
        obtain ⟨⟨⟨⟨⟨rfl, rfl⟩, rfl⟩, rfl⟩, hes⟩, hm⟩ := c7
        have tst := pt_cmpR (pos := cp) (op_inM (X := X.suite a ((a, oe) :: pn)) hue) (var 4 _ yp rfl) (pe_tup (x1 := k) (pos := tp) (pa_cons_of hes)) (bnot hm)
        have fld := pe_xf (X := X) (a := a) (pn := pn) (pos := fp) T.xf T.nn hz hf (var 1 "e" ep rfl)
        refine ⟨_, ps_ret (pe_tup (pa_cons (var 4 _ xp rfl) (pa_cons (pe_ifExp tst fld (pe_int (i := 0))) pa_nil))), fun D σ H h => ?_⟩
        obtain ⟨g1, g2, g3, g4, g5⟩ := h
        refine ⟨_, g2, _, g2, by rw [sizeLine_eq]; simp, fun p0 hp0 => ?_⟩
        refine ⟨.str (tW.getD j ""), [.str "BadBook", .str "NotKeeping", .str "BadText"], .str _, .inr (.tup (.inl (.inl upd_same)) (.cons (.str _) (.cons (.str _) (.cons (.str _) .nil)))), by simp [SeqAt.shaped, PyData.canLay0, PyData.depth, -List.getD_eq_getElem?_getD]; exact strW j T.lt, by simp [SeqAt.shaped, PyData.canLay0, PyData.depth, PyData.canLayAll0, PyData.depthAll]; decide +kernel, _, rfl, ?_⟩
        have hb : (if false = true then !([PyData.str "BadBook", .str "NotKeeping", .str "BadText"].any fun z => PyData.eqv z (.str (tW.getD j ""))) else ([PyData.str "BadBook", .str "NotKeeping", .str "BadText"].any fun z => PyData.eqv z (.str (tW.getD j "")))) = decide (j = 1 ∨ j = 5 ∨ j = 8) := by
          have : ∀ j, j < 9 → (if false = true then !([PyData.str "BadBook", .str "NotKeeping", .str "BadText"].any fun z => PyData.eqv z (.str (tW.getD j ""))) else ([PyData.str "BadBook", .str "NotKeeping", .str "BadText"].any fun z => PyData.eqv z (.str (tW.getD j "")))) = decide (j = 1 ∨ j = 5 ∨ j = 8) := by decide
          exact this j T.lt
        rw [hb]
        by_cases hj : j = 1 ∨ j = 5 ∨ j = 8
        · rw [decide_eq_true hj]
          refine iteT ?_
          have hf' : tF j = some ("number" : Str) := by
            unfold tF
            rw [if_neg (by omega), if_pos hj]
          obtain ⟨_, dd, e1, e2⟩ := g3 _ hf'
          exact ⟨_, g1, rfl, rfl, dd, _, v, e1, upd_keep hp0 _ _ e2, rfl, by rw [sizeLine_eq]; simp, fun p hp => g5 p0 _ p hp0 hp⟩
        · rw [decide_eq_false hj]
          refine iteF ?_
          by_cases h0 : j = 0
          · subst h0
            exact absurd (g3 "place" rfl).1 (by decide)
          · have hf' : tF j = none := by
              unfold tF
              rw [if_neg h0, if_neg hj]
            have := g4 hf'
            subst this
            exact ⟨by rw [sizeLine_eq]; simp, fun p hp => g5 p0 _ p hp0 hp⟩
      · cases c7
    obtain ⟨t0, q0, w0⟩ := p0
    obtain ⟨t1, q1, w1⟩ := pcat s1 n1 c1 f1 (by simp [n1])
    obtain ⟨t2, q2, w2⟩ := pcat s2 n2 c2 f2 (by simp [n2])
    obtain ⟨t3, q3, w3⟩ := p3
    obtain ⟨t4, q4, w4⟩ := p4
    obtain ⟨t5, q5, w5⟩ := p5
    obtain ⟨t6, q6, w6⟩ := p6
    obtain ⟨t7, q7, w7⟩ := p7
    refine (pss_cons q0 (pss_cons q1 (pss_cons q2 (pss_cons q3 (pss_cons q4 (pss_cons q5 (pss_cons q6 (pss_one q7)))))))).run pins s σ H D I ?_
    obtain ⟨x0, x1, x2, x3, x4, rfl⟩ : ∃ x0 x1 x2 x3 x4, σ = [x0, x1, x2, x3, x4] := by
      match σ, hl with
      | [x0, x1, x2, x3, x4], _ => exact ⟨x0, x1, x2, x3, x4, rfl⟩
    have hx1 : x1 = some (.ref a) := by simpa using h1
    subst hx1
    have fd : ∀ H', (∀ b o, H b = some o → H' b = some o) → Fld d H' := fun H' e => by
      cases hf : tF j with
      | none => exact .inl (m1 hf).1
      | some f =>
        obtain ⟨dd, e1, e2⟩ := m2 f hf
        exact .inr ⟨dd, _, e1, e _ _ e2⟩
    refine w0 _ _ _ ⟨rfl, fd H (fun _ _ z => z), fun p hp => ?_⟩
    have k0 : ∀ b o, H b = some o → (upd H p (.lst (n0.map fun p => V.bl p.2))) b = some o := upd_keep hp
    refine w1 _ _ _ ⟨rfl, fd _ k0, p, _, rfl, upd_same, by simp [n0], fun p1 p2 hp1 hp2 => ?_⟩
    have k2 := fun b o z => upd_keep (o := .lst ((n0.map fun p => V.bl p.2) ++ n1.map fun p => V.bl p.2)) hp2 b o (upd_keep hp1 b o (k0 b o z))
    refine w2 _ _ _ ⟨rfl, fd _ k2, p2, _, rfl, upd_same, by simp [n0, n1], fun p3 p4 hp3 hp4 => ?_⟩
    have k4 := fun b o z => upd_keep (o := .lst (((n0.map fun p => V.bl p.2) ++ n1.map fun p => V.bl p.2) ++ n2.map fun p => V.bl p.2)) hp4 b o (upd_keep hp3 b o (k2 b o z))
    refine w3 _ _ _ ⟨rfl, fd _ k4, p4, rfl, upd_same, ?_⟩
    refine w4 _ _ _ fun p5 hp5 => ?_
    have k5 := fun b o z => upd_keep (o := .lst (tW.map V.str)) hp5 b o (k4 b o z)
    refine w5 _ _ _ ⟨p4, p5, rfl, upd_keep hp5 _ _ upd_same, rfl, upd_same, ?_⟩
    refine w6 _ _ _ ⟨rfl, rfl, fun hj => ?_, fun hj => ?_⟩
    · obtain ⟨dd, e1, e2⟩ := m2 "place" (by unfold tF; rw [if_pos hj])
      exact ⟨dd, e1, k5 _ _ e2, fun p hp => q _ p k5 hp⟩
    · refine w7 _ _ _ ⟨rfl, rfl, fun f hf => ?_, fun hf => (m1 hf).2, fun p0 o p h0 h1 => q _ p (fun b o z => upd_keep h0 b o (k5 b o z)) h1⟩
      have hn : f = "number" := by
        unfold tF at hf
        rw [if_neg hj] at hf
        split at hf
        · exact (Option.some.inj hf).symm
        · cases hf
      subst hn
      obtain ⟨dd, e1, e2⟩ := m2 _ hf
      exact ⟨rfl, dd, e1, k5 _ _ e2⟩
  · cases h
end
/-- that the def tells so -/
theorem told_ok {W : Wd} {x wn : Str} {E : Nat → Addr} {TA g : Addr} {pg : Arguments} {bg : List Stmt} {sg : Scope} {dV kV doc pm cdv ct oc : Value} {an od : Option Addr} {osl : Array (Option Value)} (h1 : W.mg x = some (.ref g)) (h2 : PySem.W.keepIn W.K (.ref g) = true)
    (h3 : W.K.lookup g = some ⟨oc, od, .func (PySem.W.fnOf x x pg bg sg dV kV doc pm an cdv ct), osl⟩) (h4 : PySem.W.codeIn W.K cdv x = true) (h5 : Binds W.K (PySem.W.fnOf x x pg bg sg dV kV doc pm an cdv ct) ["_law_work"] []) (h6 : FnScope (tN wn) ["_law_work"] sg)
    (hb : bodyB sg wn bg = true) (S : SuOk W.K W.mg E wn sg) (hgt : sg.names.lookup ("TellError" : Str) = some .globalImplicit) (hmt : W.mg "TellError" = some (.ref TA))
    (hc : ∀ c w fo, W.pr.tw c = some (w, fo) → ∃ j, TC W.K E TA (W.ca c) j ∧ sOf w = tW.getD j "" ∧ fo = tF j) : ToldOk W x := by
  refine ⟨g, pg, bg, sg, dV, kV, doc, pm, cdv, ct, oc, an, od, osl, tN wn, "_law_work", h1, h2, h3, h4, h5, h6, rfl, .inl (S.loc _ (by simp [tN])).1, by decide, by decide, ?_⟩
  intro X q eP ew eK emg ebase hroom f c' s H Q tl act hco h
  unfold bodyB at hb
  split at hb
  · rename_i a p1 p2 p3 xx xp n s0 ss hp tp
    simp only [Bool.and_eq_true, decide_eq_true_eq] at hb
    obtain ⟨⟨⟨rfl, rfl⟩, rfl⟩, hsu⟩ := hb
    have hgl : Gl (cxOf C8.CX0 X.prog X.w X.K X.mg X.base (tN wn) x sg g cdv X.A X.stack s H C8.E0).nox "TellError" := hgt
    have SS : SuOk X.K X.mg E wn sg := by rw [eK, emg]; exact S
    refine ⟨_, pss_one (ps_try_as (X := (cxOf C8.CX0 X.prog X.w X.K X.mg X.base (tN wn) x sg g cdv X.A X.stack s H C8.E0).nox) (c := .ref TA) (i := 1) (ts := tsT X.K E TA)
      (tb := fun W D σ H => ∃ Ech : XK, (∀ cls d σ' H', Ech cls d H' → W cls d σ' H') ∧ σ[0]? = some (some (.ref f)) ∧ H c' = some (LamX.CodeO c' q) ∧ tl Ech H D.rt)
      rfl rfl S.nd rfl (S.loc "e" (by simp [tN])).1 ⟨hgl, by decide, .inl (by show X.mg _ = _; rw [emg]; exact hmt)⟩ LamX.takes0 (fun W pn xe tk _ => ?_) (fun a oe cls d pn hz hf => ?_)), ?_⟩
    · refine ⟨fun pins s' σ H' D I h' => ?_⟩
      obtain ⟨Ech, hW, h1, h2, h3⟩ := h'
      have hp := act W pn xe Ech p1 p2 tk hW
      have hq := pss_one (ps_ret (pos := p3) hp)
      exact hq.run pins s' σ H' D I ⟨h1, h2, h3⟩
    · refine suite_ok (X := (cxOf C8.CX0 X.prog X.w X.K X.mg X.base (tN wn) x sg g cdv X.A X.stack s H C8.E0).nox) SS rfl ?_ hz hf hsu
      have := hroom.un
      show X.A.units + 3 + 100 < cLine
      omega
    · refine ⟨EchZ W Q, fun cls d σ' H' he => ?_, rfl, hco, h⟩
      obtain ⟨c, w, fo, v, rfl, hw, g1, g2, g3⟩ := he
      obtain ⟨j, T, ew', rfl⟩ := hc c w fo hw
      refine ⟨true, by rw [eK]; exact T.te, fun _ a ha => ⟨fun hl => ?_, W.ca c, j, v, rfl, by rw [eK]; exact T, g1, g2, fun H'' p hm hp => ?_⟩, fun z => by cases z⟩
      · rw [List.length_set] at hl
        exact List.getElem?_set_self (by omega)
      · rw [← ew']
        exact g3 H'' p hm hp
  · cases hb
end Z
/-! the end: tables; a live script is frozen -/
namespace Z
open PySem L2 PySem.Spec PyProof.Rows
/-- the law's promise, whatever the script's list is -/
def spLawL (T : List (Addr × Str)) (K : PySem.W.Frag) : Sp := fun vs H Q _ => ∃ (a : Addr) (ns : List Int), vs = [.ref a] ∧ (∀ p ∈ T, H p.1 = some (.tbl #[])) ∧ SqL K H a (ns.map V.int) ∧ ns.length ≤ 63 ∧ ∀ H', Q (.bl true) H'
theorem freeze_hok {P : Program} {w : World} {H : Hp} {h : Heap} {a : Addr} {o : Obj} {xs : List V} (k : HOk P w H h) (ha : H a = some (.lst xs)) (ho : h.get? a = some o) : HOk P w (upd H a (.frz o (.lst xs))) h := fun b u hb => by
  have ne : ∀ c (v : HO), H c = some v → (∀ ys, v ≠ .lst ys) → upd H a (.frz o (.lst xs)) c = some v := fun c v e n => by
    rw [upd_ne fun z => by rw [z, ha] at e; cases e; exact n _ rfl]; exact e
  by_cases hba : b = a
  · subst hba
    rw [upd_same] at hb
    cases hb
    exact ⟨ho, k b _ ha⟩
  · rw [upd_ne hba] at hb
    exact (k b u hb).stay (fun _ _ _ z => z) (fun c z => ne c _ z fun _ z => HO.noConfusion z) fun c ys z => ne c _ z fun _ z => HO.noConfusion z
theorem thaw_hok {P : Program} {w : World} {H : Hp} {h : Heap} {a : Addr} {o : Obj} {xs : List V} (k : HOk P w H h) (ha : H a = some (.frz o (.lst xs))) : HOk P w (upd H a (.lst xs)) h := fun b u hb => by
  have ne : ∀ c (v : HO), H c = some v → (∀ x y, v ≠ .frz x y) → upd H a (.lst xs) c = some v := fun c v e n => by
    rw [upd_ne fun z => by rw [z, ha] at e; cases e; exact n _ _ rfl]; exact e
  by_cases hba : b = a
  · subst hba
    rw [upd_same] at hb
    cases hb
    exact (k b _ ha).2
  · rw [upd_ne hba] at hb
    exact (k b u hb).stay (fun _ _ _ z => z) (fun c z => ne c _ z fun _ _ z => HO.noConfusion z) fun c ys z => ne c _ z fun _ _ z => HO.noConfusion z
theorem law_okL {P : Program} {w : World} {K : PySem.W.Frag} {mg : Str → Option Value} {base : Heap} {k : Nat} {fa : Addr} {fd : FuncData} {x : Str} {T : List (Addr × Str)} (F : FnOk P w K mg base (L2.CX P w) k fa fd [x] (spLaw T K)) :
    FnOk P w K mg base (L2.CX P w) k fa fd [x] (spLawL T K) := by
  refine ⟨fun vs H Q E h => ?_, fun A outer s H args us vs Q E hr e0 hb hv hs => ?_⟩
  · obtain ⟨a, ns, rfl, _⟩ := h; rfl
  · obtain ⟨a, ns, rfl, hT, hq, hl, q⟩ := hs
    rcases hq with (h | h) | h
    · obtain ⟨_, its, n, _, ho⟩ := e0.hok a _ h
      let o : Obj := { cls := .type "list", data := .seq its.toArray n }
      let H1 := upd H a (.frz o (.lst (ns.map V.int)))
      have an : ∀ b, H b = none → b ≠ a := fun b e z => by rw [z, h] at e; cases e
      have e1 : Env0 P w K mg base A outer s H1 := ⟨e0.frames, e0.mod, fun b u e => ⟨(e0.bs b u e).1, by rw [show H1 b = H b from upd_ne (an b (e0.bs b u e).2)]; exact (e0.bs b u e).2⟩, e0.bsz, e0.funs,
        fun b hb => by rw [show H1 b = H b from upd_ne (an b (e0.frf b hb))]; exact e0.frf b hb, freeze_hok e0.hok h ho, e0.bare⟩
      have z := F.run A outer s H1 args us [.ref a] (fun v _ => v = .bl true) (fun _ _ _ => False) hr e1 hb hv ⟨a, ns, rfl, fun p hp => by
        rw [show H1 p.1 = H p.1 from upd_ne fun z => by have := hT p hp; rw [z, h] at this; cases this]; exact hT p hp, .inl ⟨o, upd_same⟩, hl, fun _ => rfl⟩
      refine codeAny_mono z fun r s' hq => ?_
      cases r with
      | error e =>
        obtain ⟨_, _, _, _, _, _, _, _, _, _, _, _, z⟩ := hq
        exact z.elim
      | ok f =>
        cases f with
        | ret u =>
          obtain ⟨v, H2, h1, h2, h3, h4, h5, h6⟩ := hq
          subst h6
          have ha2 : H2 a = some (.frz o (.lst (ns.map V.int))) := h3.frzs a _ _ upd_same
          have at1 : ∀ b u, H b = some u → (∀ ys, u ≠ .lst ys) → H1 b = some u ∧ b ≠ a := fun b u e n => by
            have ne : b ≠ a := fun z => by rw [z, h] at e; cases e; exact n _ rfl
            exact ⟨by rw [show H1 b = H b from upd_ne ne]; exact e, ne⟩
          refine ⟨.bl true, upd H2 a (.lst (ns.map V.int)), h1, h2, ⟨fun b u e n nb nx => h3.keep b u e (by rw [show H1 b = H b from upd_ne (an b n)]; exact n) nb nx, fun b u e n nb nx => h3.slot b u e (by rw [show H1 b = H b from upd_ne (an b n)]; exact n) nb nx,
            fun b u e n nx => ?_, h3.there, fun b ys e => ?_, fun b u v e => ?_, fun b ps e => ?_⟩, thaw_hok h4 ha2, h5, q _⟩
          · rw [upd_ne (an b n)]
            exact h3.free b u e (by rw [show H1 b = H b from upd_ne (an b n)]; exact n) nx
          · obtain ⟨g1, g2⟩ := at1 b _ e fun _ z => HO.noConfusion z
            rw [upd_ne g2]; exact h3.tups b ys g1
          · obtain ⟨g1, g2⟩ := at1 b _ e fun _ z => HO.noConfusion z
            rw [upd_ne g2]; exact h3.frzs b u v g1
          · obtain ⟨g1, g2⟩ := at1 b _ e fun _ z => HO.noConfusion z
            rw [upd_ne g2]; exact h3.tbls b ps g1
        | next => exact hq.elim
        | brk => exact hq.elim
        | cont => exact hq.elim
    · exact F.run A outer s H args us [.ref a] Q E hr e0 hb hv ⟨a, ns, rfl, hT, .inl h, hl, q⟩
    · exact F.run A outer s H args us [.ref a] Q E hr e0 hb hv ⟨a, ns, rfl, hT, .inr h, hl, q⟩
/-- the empty tables of the defs that the top has made -/
def TabsOf (q : Program) (mg : Str → Option Value) (h : Heap) : Prop := ∀ d ∈ recsOf q, ∃ (a : Addr) (o : Obj) (fd : FuncData) (c P : Addr), mg d.name = some (.ref a) ∧ h.get? a = some o ∧ o.data = .func fd ∧ fd.code = .ref c ∧ PySem.W.CodeHd h c P ∧ h.get? P = some { cls := .none, data := .fields #[] }
/-- the written part holds no empty table -/
def noTabB (K : PySem.W.Frag) : Bool := K.all fun p => match p.2.data with | .fields vs => vs.size != 0 | _ => true
theorem memK {o : Obj} {P : Addr} : ∀ {K : PySem.W.Frag}, K.lookup P = some o → (P, o) ∈ K
  | [], h => by cases h
  | (a, b) :: r, h => by
    rw [List.lookup] at h
    split at h
    · rename_i z
      cases h
      rw [show P = a from by simpa using z]
      exact List.mem_cons_self
    · exact List.mem_cons_of_mem _ (memK h)
theorem noTab {K : PySem.W.Frag} {h : Heap} (hK : noTabB K = true) (X : K.In h) {P : Addr} (hP : h.get? P = some { cls := .none, data := .fields #[] }) : K.lookup P = none := by
  cases e : K.lookup P with
  | none => rfl
  | some o =>
    have e1 := X P o e
    rw [hP] at e1
    cases e1
    have e2 := List.all_eq_true.mp hK (P, _) (memK e)
    simp at e2
def recB (q : Program) (x : Str) : Bool := (recsOf q).any fun e => e.name == x
theorem tabOf {q : Program} {mg : Str → Option Value} {h : Heap} {K : PySem.W.Frag} {f : Addr} {x qual : Str} {params : Arguments} {body : List Stmt} {sc : Scope} {dV kV doc pm cdv ct oc : Value} {an od : Option Addr} {osl : Array (Option Value)} (t : TabsOf q mg h) (X : K.In h) (hr : recB q x = true) (hm : mg x = some (.ref f))
    (hl : K.lookup f = some ⟨oc, od, .func (PySem.W.fnOf x qual params body sc dV kV doc pm an cdv ct), osl⟩) : ∃ c P, cdv = .ref c ∧ PySem.W.CodeHd h c P ∧ h.get? P = some { cls := .none, data := .fields #[] } := by
  obtain ⟨d, hd, hn⟩ := List.any_eq_true.mp hr
  have hn : d.name = x := beq_iff_eq.mp hn
  obtain ⟨a, o, fd, c, P, h1, h2, h3, h4, h5, h6⟩ := t d hd
  rw [hn, hm] at h1
  cases h1
  rw [X f _ hl] at h2
  cases h2
  cases h3
  exact ⟨c, P, h4, h5, h6⟩
theorem walk_tabs {l : PySem.W.OpenLaw} {n k : Nat} {q : Program} {loose : List Str} {XP : (Str → Option Value) → Heap → Prop} {YP : World → Heap → Prop} {d : DefRec} {K : Params → PySem.W.Frag} {x : Str}
    (hn : l.most = some n) (hn2 : n ≤ sizeLine) (hdf : d.params.defaults = []) (hr : Room k callerA) (hY : ∀ (w : World) (h : Heap), YP w h → (K w.params).In h)
    (F : ∀ (w : World) (mg : Str → Option Value) (fa : Addr) (h : Heap), (K w.params).In h → h.Ns mainGlobals mg → mg d.name = some (.ref fa) → TabsOf q mg h → LamX.LawAtS l w (K w.params) (L2.CX l.prog w) k n x mg fa h) :
    PySem.W.WalkO q loose XP YP l.row.toRowW d [] (fun g us => PySem.call g us) := by
  refine Att.attach_callB hn hdf fun w s₀ s₁ mg mb fa o pm cd doc a vs ns G Y ho hd hcd hmg hobj hints hlen hbits hg => ?_
  have KX := hY w _ Y
  obtain ⟨fd, cs, sp, hT, nT, C, hb, hsp, hF⟩ := F w mg fa _ KX G.T.g hmg fun e he => by
    obtain ⟨a', o', fd', c', P', h1, h2, h3, h4, h5, h6⟩ := G.T.tab e he
    exact ⟨a', o', fd', c', P', h1, h2, h3, h4, .of h5 h6, h6.2⟩
  refine LamX.law_callTs KX G.T.g G.T.b G.T.builtins G.T.nolimit hg hT nT C G.T.bmain hobj hints (Nat.le_trans hlen hn2) hr hF hb (fun H hH hS => hsp H a ns hlen hbits hH hS) fun H e s' z => ?_
  obtain ⟨_, _, _, _, _, _, _, _, _, _, _, _, z⟩ := z
  exact z
/-! ### own exception classes, by what the written part says of them -/
structure EF (K : PySem.W.Frag) (TA C : Addr) : Prop where
  ga : PySem.W.findIn K (.ref C) "__getattribute__" = some (some (.builtin "BaseException.__getattribute__"))
  gg : PySem.W.findIn K (.ref C) "__getattr__" = some none
  sb : PySem.W.subIn K (.ref C) (.type "BaseException") = some true
  hd : PySem.W.hasDictIn K C = true
  cl : PySem.W.findIn K (.ref C) "__class__" = some (some (.builtin "object.__class__"))
  hn : PySem.W.specialIn K (.builtin "object.__class__") "__get__" = some (some (.builtin "getset_descriptor.__get__"))
  ht : PySem.W.takesIn K (.builtin "object.__class__") = some true
  mo : PySem.W.mroIn K C (.type "object") = some true
  np : PySem.W.findIn K (.ref C) "place" = some none
  nn : PySem.W.findIn K (.ref C) "number" = some none
  sv : PySem.W.subIn K (.ref C) (.type "ValueError") = some true
  st : PySem.W.subIn K (.ref C) (.ref TA) = some true
  iT : PySem.W.isClsIn K TA = true
  tT : PySem.W.typeIn K (.ref TA) = some (.type "type")
  bT : PySem.W.subIn K (.ref TA) (.type "BaseException") = some true
theorem kitCls_of {K : PySem.W.Frag} {t : Value} {E : Addr} {b : Bool} (h2 : PySem.W.isClsIn K E = true) (h3 : PySem.W.typeIn K (.ref E) = some (.type "type")) (h4 : PySem.W.subIn K t (.ref E) = some b) : PySem.W.kitCls K t (.ref E) = some b := by
  have e2 : ((PySem.W.clsIn K E).isSome && PySem.W.typeIn K (.ref E) == some (.type "type")) = true := by
    have h2' : (PySem.W.clsIn K E).isSome = true := h2
    rw [h2', h3] <;> rfl
  unfold PySem.W.kitCls
  exact (if_pos e2).trans h4
theorem kit_ne {K : PySem.W.Frag} {C E : Addr} (n : (C == E) = false) (h2 : PySem.W.isClsIn K E = true) (h3 : PySem.W.typeIn K (.ref E) = some (.type "type")) (h4 : PySem.W.subIn K (.ref C) (.ref E) = some false) : PySem.W.kitOne K (.ref C) (.ref E) = some false := by
  unfold PySem.W.kitOne
  have n' : (Value.ref C == Value.ref E) = false := by
    rw [beq_eq_false_iff_ne] at n ⊢
    intro z; cases z; exact n rfl
  rw [n']
  exact kitCls_of h2 h3 h4
theorem kit_self {K : PySem.W.Frag} {C : Addr} : PySem.W.kitOne K (.ref C) (.ref C) = some true := by
  unfold PySem.W.kitOne
  rw [if_pos (by simp)]
theorem EF.tc {K : PySem.W.Frag} {TA C : Addr} {E : Nat → Addr} {j : Nat} (f : EF K TA C) (lt : j < 9) (is : ∀ i, i < 9 → PySem.W.kitOne K (.ref C) (.ref (E i)) = some (decide (i = j))) : TC K E TA C j := by
  refine ⟨lt, ⟨f.ga, f.gg, f.sb, f.hd, f.cl, f.hn, f.ht, f.mo⟩, is, ?_, ?_, ⟨f.ga, f.gg, f.sb, f.hd⟩, f.np, f.nn⟩
  · unfold PySem.W.kitOne
    have e1 : (Value.ref C == Value.type "ValueError") = false := by simp
    have e2 : PySem.W.kitMeta "ValueError" = true := by decide +kernel
    rw [e1]
    show (if PySem.W.kitMeta "ValueError" = true then PySem.W.subIn K (.ref C) (.type "ValueError") else none) = some true
    rw [if_pos e2]
    exact f.sv
  · unfold PySem.W.exmOne
    rw [f.bT]
    exact kitCls_of f.iT f.tT f.st
end Z
/-! Z: evaluation by simp: rows common to all laws -/
namespace Z
@[simp] theorem R_bind_ok {α β : Type} (a : α) (st : Sto) (f : α → Sto → R β) : (R.ok a st).bind f = f a st := (rfl)
@[simp] theorem R_bind_stuck {α β : Type} (f : α → Sto → R β) : (R.stuck : R α).bind f = .stuck := (rfl)
@[simp] theorem R_sbind_ok {α : Type} (ρ : Env) (a : α) (st : Sto) (f : α → Sto → SR) : (R.ok a st).sbind ρ f = f a st := (rfl)
@[simp] theorem R_noex_ok {α : Type} (a : α) (st : Sto) : (R.ok a st).noex = .ok a st := (rfl)
@[simp] theorem bOf_bl (st : Sto) (b : Bool) : bOf st (.bl b) = .ok b st := (rfl)
@[simp] theorem iOf_int (st : Sto) (b : Int) : iOf st (.int b) = .ok b st := (rfl)
@[simp] theorem ofO_some {α : Type} (st : Sto) (a : α) : ofO st (some a) = .ok a st := (rfl)
@[simp] theorem SR_then_nx (ρ : Env) (st : Sto) (f : Env → Sto → SR) : (SR.ok .nx ρ st).then f = f ρ st := (rfl)
@[simp] theorem SR_then_rt (d : D) (ρ : Env) (st : Sto) (f : Env → Sto → SR) : (SR.ok (.rt d) ρ st).then f = .ok (.rt d) ρ st := (rfl)
@[simp] theorem SR_turn_nx (ρ : Env) (st : Sto) (f : Env → Sto → SR) : (SR.ok .nx ρ st).turn f = f ρ st := (rfl)
@[simp] theorem SR_turn_rt (d : D) (ρ : Env) (st : Sto) (f : Env → Sto → SR) : (SR.ok (.rt d) ρ st).turn f = .ok (.rt d) ρ st := (rfl)
@[simp] theorem runB_nx (ρ : Env) (st : Sto) : runB (.ok .nx ρ st) = .ok .non st := (rfl)
@[simp] theorem runB_rt (d : D) (ρ : Env) (st : Sto) : runB (.ok (.rt d) ρ st) = .ok d st := (rfl)
@[simp] theorem cl_call (pr : Prog) (F k : Nat) : (pr.cl F k).call = pr.call F k := (rfl)
@[simp] theorem cl_tw (pr : Prog) (F k : Nat) : (pr.cl F k).tw = pr.tw := (rfl)
@[simp] theorem cl_ini (pr : Prog) (F k : Nat) : (pr.cl F k).ini = pr.ini := (rfl)
@[simp] theorem cl_meth (pr : Prog) (F k : Nat) : (pr.cl F k).meth = pr.meth := (rfl)
theorem call_eq (pr : Prog) (F k : Nat) {f : Nat} {ds : List D} {st : Sto} {fi : FnIR} (h : pr.fns[f]? = some fi) (hn : ds.length = fi.np) :
    pr.call F (k + 1) f ds st = finish st (runB (evSs (pr.cl F k) F fi.body (ds.map some ++ List.replicate (fi.nl - fi.np) none) st)) := by
  show Prog.step pr F _ f ds st = _
  unfold Prog.step
  rw [h]
  simp only
  rw [if_pos hn]
  rfl
theorem reach_old {n0 : Nat} {st : Sto} : ∀ (f : Nat) (todo acc : List Nat), todo.all (fun k => decide (k < n0)) = true → reach n0 st f todo acc = acc
  | 0, _, _, _ => rfl
  | _ + 1, [], _, _ => rfl
  | f + 1, k :: todo, acc, h => by
    rw [List.all_cons, Bool.and_eq_true, decide_eq_true_eq] at h
    rw [reach, if_pos (.inl h.1)]
    exact reach_old f todo acc h.2
mutual
theorem rnD_id {g : Nat → Nat} {p : Nat → Bool} (hg : ∀ k, p k = true → g k = k) : ∀ {d : D}, (locsD d).all p = true → rnD g d = d
  | .non, _ => rfl
  | .bl _, _ => rfl
  | .int _, _ => rfl
  | .str _, _ => rfl
  | .tup ds, c => by rw [locsD] at c; rw [rnD, rnDs_id hg c]
  | .loc k, c => by rw [rnD, hg k (by simpa [locsD] using c)]
  | .fl ds, c => by rw [locsD] at c; rw [rnD, rnDs_id hg c]
theorem rnDs_id {g : Nat → Nat} {p : Nat → Bool} (hg : ∀ k, p k = true → g k = k) : ∀ {d : List D}, (locsDs d).all p = true → rnDs g d = d
  | [], _ => rfl
  | d :: ds, c => by
    rw [locsDs, List.all_append, Bool.and_eq_true] at c
    rw [rnDs, rnD_id hg c.1, rnDs_id hg c.2]
end
theorem rnDs_mp (g : Nat → Nat) : ∀ ds : List D, rnDs g ds = ds.map (rnD g)
  | [] => rfl
  | d :: ds => by rw [rnDs, rnDs_mp g ds]; rfl
theorem kv_id {α : Type} {g : Nat → Nat} {p : Nat → Bool} (hg : ∀ k, p k = true → g k = k) : ∀ {fs : List (α × D)}, (locsDs (fs.map (·.2))).all p = true → fs.map (fun q => (q.1, rnD g q.2)) = fs
  | [], _ => rfl
  | (a, d) :: r, c => by
    rw [List.map_cons, locsDs, List.all_append, Bool.and_eq_true] at c
    rw [List.map_cons, kv_id hg c.2, rnD_id hg c.1]
theorem rnC_id {g : Nat → Nat} {p : Nat → Bool} (hg : ∀ k, p k = true → g k = k) {c : Cell} (h : (locsC c).all p = true) : rnC g c = c := by
  cases c with
  | lst xs => show Cell.lst (rnDs g xs) = _; rw [rnDs_id hg h]
  | ins c fs => show Cell.ins c (fs.map _) = _; rw [kv_id hg h]
  | dct kvs => show Cell.dct (kvs.map _) = _; rw [kv_id hg h]
  | dck kvs => show Cell.dck (kvs.map _) = _; rw [kv_id hg h]
theorem newN_lt {n0 : Nat} {L : List Nat} {k : Nat} (h : decide (k < n0) = true) : newN n0 L k = k := if_pos (of_decide_eq_true h)
theorem okN_lt {n0 : Nat} {L : List Nat} {ks : List Nat} (h : ks.all (fun k => decide (k < n0)) = true) : ks.all (okN n0 L) = true := by
  rw [List.all_eq_true] at h ⊢
  intro k hk
  unfold okN
  rw [h k hk]; rfl
/-- behind a call that tells of nothing new -/
theorem finish_old {st st1 : Sto} {d : D} (ho : OldOk st st1) (h : (locsD d).all (fun k => decide (k < st.length)) = true) : finish st (.ok d st1) = .ok d (st1.take st.length) := by
  show (if OldOk st st1 then gcD st.length (reach st.length st1 40 (locsD d) []) d st1 else _) = _
  rw [if_pos ho, reach_old _ _ _ h]
  unfold gcD
  rw [if_pos ⟨List.nodup_nil, (fun k hk => nomatch hk), okN_lt h⟩, rnD_id (p := fun k => decide (k < st.length)) (fun k hk => newN_lt hk) h]
  simp
/-- .. of one new thing -/
theorem finish_one {st st1 : Sto} {k : Nat} {c : Cell} (ho : OldOk st st1) (hk : st.length ≤ k) (hc : st1[k]? = some c) (h : (locsC c).all (fun k => decide (k < st.length)) = true) : finish st (.ok (.loc k) st1) = .ok (.loc st.length) (st1.take st.length ++ [c]) := by
  show (if OldOk st st1 then gcD st.length (reach st.length st1 40 [k] []) (.loc k) st1 else _) = _
  have hr : reach st.length st1 40 [k] [] = [k] := by
    rw [reach, if_neg (by simp; omega), hc]
    exact reach_old _ _ _ (by simpa using h)
  rw [if_pos ho, hr]
  have hn : ∀ j, decide (j < st.length) = true → newN st.length [k] j = j := fun j hj => newN_lt hj
  unfold gcD
  rw [if_pos ⟨by simp, fun j hj => by
    rw [List.mem_singleton] at hj; subst hj
    exact ⟨hk, by rw [hc, Option.map_some, okN_lt h]⟩, by simp [locsD, okN]⟩]
  have e1 : newN st.length [k] k = st.length := by
    unfold newN
    rw [if_neg (by omega)]; simp
  show R.ok (D.loc (newN st.length [k] k)) (_ ++ [rnC _ (st1[k]?.getD _)]) = _
  rw [e1, hc]
  show R.ok _ (_ ++ [rnC _ c]) = _
  rw [rnC_id hn h]
theorem oldOk_app (st x : Sto) : OldOk st (st ++ x) := fun i hi => .inl (List.getElem?_append_left hi)
theorem oldOk_rfl (st : Sto) : OldOk st st := fun i hi => .inl rfl
theorem finish_same (st : Sto) (d : D) (h : (locsD d).all (fun k => decide (k < st.length)) = true) : finish st (.ok d st) = .ok d st := by
  rw [finish_old (oldOk_rfl st) h, List.take_length]
mutual
theorem clD_locs {n : Nat} : ∀ {d : D}, clD n d = true → (locsD d).all (fun k => decide (k < n)) = true
  | .non, _ => rfl
  | .bl _, _ => rfl
  | .int _, _ => rfl
  | .str _, _ => rfl
  | .tup ds, h => by rw [clD] at h; rw [locsD]; exact clDs_locs h
  | .loc k, h => by rw [clD] at h; simpa [locsD] using h
  | .fl ds, h => by rw [clD] at h; rw [locsD]; exact clDs_locs h
theorem clDs_locs {n : Nat} : ∀ {d : List D}, clDs n d = true → (locsDs d).all (fun k => decide (k < n)) = true
  | [], _ => rfl
  | d :: ds, h => by
    rw [clDs, Bool.and_eq_true] at h
    rw [locsDs, List.all_append, clD_locs h.1, clDs_locs h.2]; rfl
end
theorem all_mono {n n' : Nat} (hn : n ≤ n') {ks : List Nat} (h : ks.all (fun k => decide (k < n)) = true) : ks.all (fun k => decide (k < n')) = true := by
  rw [List.all_eq_true] at h ⊢
  intro k hk
  have := of_decide_eq_true (h k hk)
  exact decide_eq_true (by omega)
@[simp] theorem finish_st (st : Sto) (d : D) (h : clD 0 d = true) : finish st (.ok d st) = .ok d st := finish_same st d (all_mono (Nat.zero_le _) (clD_locs h))
/-- a call that made new things alone, and hands back data -/
@[simp] theorem finish_new (st x : Sto) (d : D) (h : clD 0 d = true) : finish st (.ok d (st ++ x)) = .ok d st := by
  rw [finish_old (oldOk_app st x) (all_mono (Nat.zero_le _) (clD_locs h)), List.take_left' rfl]
/-- a call that made new things alone, and hands back one of them -/
theorem finish_newL (st x : Sto) {j : Nat} {c : Cell} (hc : x[j]? = some c) (h : (locsC c).all (fun k => decide (k < st.length)) = true) : finish st (.ok (.loc (st.length + j)) (st ++ x)) = .ok (.loc st.length) (st ++ [c]) := by
  rw [finish_one (oldOk_app st x) (by omega) (by rw [List.getElem?_append_right (by omega), Nat.add_sub_cancel_left]; exact hc) h, List.take_left' rfl]
/-- what stays from st to st', but at the places S -/
structure Keep (S : List Nat) (st st' : Sto) : Prop where
  le : st.length ≤ st'.length
  at_ : ∀ i, i < st.length → i ∉ S → st'[i]? = st[i]?
theorem Keep.refl (S : List Nat) (st : Sto) : Keep S st st := ⟨Nat.le_refl _, fun _ _ _ => rfl⟩
theorem Keep.trans {S : List Nat} {a b c : Sto} (h : Keep S a b) (g : Keep S b c) : Keep S a c := ⟨Nat.le_trans h.le g.le, fun i hi hn => (g.at_ i (Nat.lt_of_lt_of_le hi h.le) hn).trans (h.at_ i hi hn)⟩
theorem Keep.mono {S T : List Nat} {a b : Sto} (h : Keep S a b) (s : ∀ i ∈ S, i ∈ T) : Keep T a b := ⟨h.le, fun i hi hn => h.at_ i hi fun z => hn (s i z)⟩
theorem Keep.app (S : List Nat) (st x : Sto) : Keep S st (st ++ x) := ⟨by simp, fun i hi _ => List.getElem?_append_left hi⟩
theorem Keep.set {S : List Nat} {st : Sto} {n : Nat} {c : Cell} (h : n ∈ S) : Keep S st (st.set n c) := ⟨by simp, fun i hi hn => List.getElem?_set_ne fun e => hn (by rw [← e]; exact h)⟩
theorem Keep.get {S : List Nat} {st st' : Sto} (h : Keep S st st') {i : Nat} {c : Cell} (e : st[i]? = some c) (hn : i ∉ S) : st'[i]? = some c := by
  rw [h.at_ i (List.getElem?_eq_some_iff.mp e).1 hn]; exact e
theorem lt_of_at {st : Sto} {i : Nat} {c : Cell} (e : st[i]? = some c) : i < st.length := (List.getElem?_eq_some_iff.mp e).1
theorem app_at {st : Sto} {i : Nat} {c : Cell} (x : Sto) (e : st[i]? = some c) : (st ++ x)[i]? = some c := by
  rw [List.getElem?_append_left (lt_of_at e)]; exact e
theorem set_at {st : Sto} {i n : Nat} {c c' : Cell} (e : st[i]? = some c) (h : n ≠ i) : (st.set n c')[i]? = some c := by
  rw [List.getElem?_set_ne h]; exact e
theorem set_here {st : Sto} {i : Nat} {c c' : Cell} (e : st[i]? = some c) : (st.set i c')[i]? = some c' := List.getElem?_set_self (lt_of_at e)
/-- the end of a call that changed the places S -/
theorem finish_keep {st st1 : Sto} {d : D} {S : List Nat} (h : clD 0 d = true) (k : Keep S st st1) (hc : ∀ i ∈ S, ∃ c, st1[i]? = some c ∧ clC st.length c = true) :
    ∃ st', finish st (.ok d st1) = .ok d st' ∧ Keep S st st' ∧ st'.length = st.length ∧ ∀ i, i < st.length → st'[i]? = st1[i]? := by
  refine ⟨st1.take st.length, ?_, ⟨by rw [List.length_take]; have := k.le; omega, fun i hi hn => ?_⟩, by rw [List.length_take]; have := k.le; omega, fun i hi => ?_⟩
  · refine finish_old (fun i hi => ?_) (all_mono (Nat.zero_le _) (clD_locs h))
    by_cases hs : i ∈ S
    · obtain ⟨c, e, q⟩ := hc i hs
      exact .inr (by rw [e]; simp [q])
    · exact .inl (k.at_ i hi hs)
  · rw [List.getElem?_take_of_lt hi]; exact k.at_ i hi hn
  · exact List.getElem?_take_of_lt hi
theorem Keep.setN {S : List Nat} {st st1 : Sto} {n : Nat} {c : Cell} (k : Keep S st st1) (h : st.length ≤ n) : Keep S st (st1.set n c) := ⟨by simp [k.le], fun i hi hn => by rw [List.getElem?_set_ne (by omega)]; exact k.at_ i hi hn⟩
theorem Keep.appN {S : List Nat} {st st1 : Sto} (k : Keep S st st1) (x : Sto) : Keep S st (st1 ++ x) := k.trans (Keep.app S st1 x)
/-- a call that changed nothing that stood -/
theorem finish_pure {st st1 : Sto} {d : D} (h : clD 0 d = true) (k : Keep [] st st1) : finish st (.ok d st1) = .ok d st := by
  obtain ⟨st', e, k', l, at_⟩ := finish_keep (S := []) h k (fun i hi => by simp at hi)
  rw [e]
  congr 1
  refine List.ext_getElem? fun i => ?_
  by_cases hi : i < st.length
  · exact k'.at_ i hi (by simp)
  · rw [List.getElem?_eq_none (by omega), List.getElem?_eq_none (by omega)]
@[simp] theorem clDs_ints (n : Nat) : ∀ ns : List Int, clDs n (ns.map D.int) = true
  | [] => rfl
  | x :: xs => by rw [List.map_cons, clDs, clDs_ints n xs]; rfl
end Z
namespace Z
/-! ### evaluation, rule by rule -/
section
variable {C : Cl} {ρ : Env} {st s1 s2 s3 : Sto} {a b c i : IE} {es r : IEs} {d x y : D} {ds xs : List D} {k j : Bool}
theorem e_var {n : Nat} (h : ρ[n]? = some (some d)) : ev C (.var n) ρ st = .ok d st := by rw [ev, h]
theorem e_cst : ev C (.cst d) ρ st = .ok d st := by rw [ev]
theorem e_gl : ev C (.gl d) ρ st = .ok d st := by rw [ev]
theorem e_tup (h : evs C es ρ st = .ok ds s1) (hl : ds.length ≤ 1000) : ev C (.tup es) ρ st = .ok (.tup ds) s1 := by
  rw [ev, h, R_bind_ok, if_pos (Nat.le_trans hl (by decide))]
theorem e_lst (h : evs C es ρ st = .ok ds s1) (hl : ds.length ≤ 1000) : ev C (.lst es) ρ st = .ok (.loc s1.length) (s1 ++ [.lst ds]) := by
  rw [ev, h, R_bind_ok, if_pos (Nat.le_trans hl (by decide))]
theorem e_bin {o : BOp} (h1 : ev C a ρ st = .ok x s1) (h2 : ev C b ρ s1 = .ok y s2) (h3 : binD o x y s2 = .ok d s3) : ev C (.bin o a b) ρ st = .ok d s3 := by
  rw [ev, h1, R_bind_ok, h2, R_bind_ok, h3]
theorem e_cmp {o : COp} (h1 : ev C a ρ st = .ok x s1) (h2 : ev C b ρ s1 = .ok y s2) (h3 : cmpD o x y s2 = .ok d s3) : ev C (.cmp o a b) ρ st = .ok d s3 := by
  rw [ev, h1, R_bind_ok, h2, R_bind_ok, h3]
theorem e_and (h1 : ev C a ρ st = .ok (.bl k) s1) (h2 : k = true → ev C b ρ s1 = .ok (.bl j) s1) : ev C (.and a b) ρ st = .ok (.bl (k && j)) s1 := by
  rw [ev, h1, R_bind_ok, bOf_bl, R_bind_ok]
  cases k with
  | true => rw [if_pos rfl, h2 rfl]; rfl
  | false => rfl
theorem e_or (h1 : ev C a ρ st = .ok (.bl k) s1) (h2 : k = false → ev C b ρ s1 = .ok (.bl j) s1) : ev C (.or a b) ρ st = .ok (.bl (k || j)) s1 := by
  rw [ev, h1, R_bind_ok, bOf_bl, R_bind_ok]
  cases k with
  | false => rw [if_neg Bool.false_ne_true, h2 rfl]; rfl
  | true => rfl
theorem e_andF (h1 : ev C a ρ st = .ok (.bl false) s1) : ev C (.and a b) ρ st = .ok (.bl false) s1 := by
  rw [ev, h1, R_bind_ok, bOf_bl, R_bind_ok]; rfl
theorem e_andT (h1 : ev C a ρ st = .ok (.bl true) s1) (h2 : ev C b ρ s1 = .ok (.bl j) s2) : ev C (.and a b) ρ st = .ok (.bl j) s2 := by
  rw [ev, h1, R_bind_ok, bOf_bl, R_bind_ok, if_pos rfl, h2]; rfl
theorem e_orT (h1 : ev C a ρ st = .ok (.bl true) s1) : ev C (.or a b) ρ st = .ok (.bl true) s1 := by
  rw [ev, h1, R_bind_ok, bOf_bl, R_bind_ok]; rfl
theorem e_orF (h1 : ev C a ρ st = .ok (.bl false) s1) (h2 : ev C b ρ s1 = .ok (.bl j) s2) : ev C (.or a b) ρ st = .ok (.bl j) s2 := by
  rw [ev, h1, R_bind_ok, bOf_bl, R_bind_ok, if_neg Bool.false_ne_true, h2]; rfl
theorem e_not (h1 : ev C a ρ st = .ok (.bl k) s1) : ev C (.not a) ρ st = .ok (.bl (!k)) s1 := by
  rw [ev, h1, R_bind_ok, bOf_bl, R_bind_ok]
theorem e_iteT (h1 : ev C c ρ st = .ok (.bl true) s1) (h2 : ev C a ρ s1 = .ok d s2) : ev C (.ite c a b) ρ st = .ok d s2 := by
  rw [ev, h1, R_bind_ok, bOf_bl, R_bind_ok, if_pos rfl, h2]
theorem e_iteF (h1 : ev C c ρ st = .ok (.bl false) s1) (h2 : ev C b ρ s1 = .ok d s2) : ev C (.ite c a b) ρ st = .ok d s2 := by
  rw [ev, h1, R_bind_ok, bOf_bl, R_bind_ok, if_neg Bool.false_ne_true, h2]
theorem e_ix (h1 : ev C a ρ st = .ok x s1) (h2 : ev C i ρ s1 = .ok y s2) (h3 : ixD x y s2 = .ok d s3) : ev C (.ix a i) ρ st = .ok d s3 := by
  rw [ev, h1, R_bind_ok, h2, R_bind_ok, h3]
theorem e_sl {lo hi : IO} {l h : Option Int} {s4 : Sto} (h1 : ev C a ρ st = .ok x s1) (h2 : evO C lo ρ s1 = .ok l s2) (h3 : evO C hi ρ s2 = .ok h s3) (h4 : slD x l h s3 = .ok d s4) : ev C (.sl a lo hi) ρ st = .ok d s4 := by
  rw [ev, h1, R_bind_ok, h2, R_bind_ok, h3, R_bind_ok, h4]
theorem e_on : evO C .none ρ st = .ok none st := by rw [evO]
theorem e_os {n : Int} (h1 : ev C a ρ st = .ok (.int n) s1) : evO C (.some a) ρ st = .ok (some n) s1 := by rw [evO, h1, R_bind_ok, iOf_int]; rfl
theorem e_rev (h1 : ev C a ρ st = .ok x s1) (h3 : revD x s1 = .ok d s3) : ev C (.rev a) ρ st = .ok d s3 := by rw [ev, h1, R_bind_ok, h3]
theorem e_fld {f : PySem.Str} (h1 : ev C a ρ st = .ok x s1) (h3 : fldD x f s1 = .ok d s3) : ev C (.fld a f) ρ st = .ok d s3 := by rw [ev, h1, R_bind_ok, h3]
theorem e_isi {kd : Kd} (h1 : ev C a ρ st = .ok x s1) (h3 : isiD x kd s1 = .ok d s3) : ev C (.isi a kd) ρ st = .ok d s3 := by rw [ev, h1, R_bind_ok, h3]
theorem e_bi {o : Bi} (h1 : ev C a ρ st = .ok x s1) (h3 : biD o x s1 = .ok d s3) : ev C (.bi o a) ρ st = .ok d s3 := by rw [ev, h1, R_bind_ok, h3]
theorem e_call {f : Nat} (h1 : evs C es ρ st = .ok ds s1) (h2 : C.call f ds s1 = .ok d s2) : ev C (.call f es) ρ st = .ok d s2 := by rw [ev, h1, R_bind_ok, h2]
theorem e_mk {cn f : Nat} (h1 : evs C es ρ st = .ok ds s1) (hf : C.ini cn = some f) (h2 : C.call f (.loc s1.length :: ds) (s1 ++ [.ins cn []]) = .ok .non s2) : ev C (.mk cn es) ρ st = .ok (.loc s1.length) s2 := by
  rw [ev, h1, R_bind_ok, hf]
  show R.bind (C.call f (.loc s1.length :: ds) (s1 ++ [.ins cn []])) _ = _
  rw [h2]; rfl
theorem e_me0 {me : Me} (h1 : ev C a ρ st = .ok x s1) (h2 : recvOk me s1 x = true) (h3 : me0D me x s1 = .ok d s2) : ev C (.me0 me a) ρ st = .ok d s2 := by rw [ev, h1, R_bind_ok, if_pos h2, h3]
theorem e_me1 {me : Me} (h1 : ev C a ρ st = .ok x s1) (h2 : recvOk me s1 x = true) (h3 : ev C b ρ s1 = .ok y s2) (h4 : me1D me x y s2 = .ok d s3) : ev C (.me1 me a b) ρ st = .ok d s3 := by
  rw [ev, h1, R_bind_ok, if_pos h2, h3, R_bind_ok, h4]
theorem e_om {nm : PySem.Str} {mi n cn f : Nat} {fs : List (PySem.Str × D)} (h1 : ev C a ρ st = .ok (.loc n) s1) (h2 : s1[n]? = some (.ins cn fs)) (hf : C.meth cn mi = some f) (hn : fs.lookup nm = none) (h3 : evs C es ρ s1 = .ok ds s2) (h4 : C.call f (.loc n :: ds) s2 = .ok d s3) :
    ev C (.om nm mi a es) ρ st = .ok d s3 := by
  rw [ev, h1, R_bind_ok]
  simp only [h2, hf, hn]
  rw [h3, R_bind_ok, h4]
theorem e_nil : evs C .nil ρ st = .ok [] st := by rw [evs]
theorem e_cons (h1 : ev C a ρ st = .ok x s1) (h2 : evs C r ρ s1 = .ok xs s2) : evs C (.cons a r) ρ st = .ok (x :: xs) s2 := by rw [evs, h1, R_bind_ok, h2]; rfl
theorem e_it {w : Wk} (h1 : ev C a ρ st = .ok x s1) (h2 : wkD x s1 = .ok w s2) : evI C (.it a) ρ st = .ok w s2 := by rw [evI, h1, R_bind_ok, h2]
theorem e_rng1 {n : Int} (h1 : ev C a ρ st = .ok (.int n) s1) (h : iLim n) : evI C (.rng1 a) ρ st = .ok (rngW 0 n.toNat) s1 := by rw [evI, h1, R_bind_ok, iOf_int, R_bind_ok, if_pos h]
theorem e_comp {e : IE} {t : IT} {own : List Nat} {it : II} {co : IO} {w : Wk} {ys : List D} (h1 : evI C it ρ st = .ok w s1)
    (h2 : compL w (turnC C t own co e ρ) w.xs s1 = .ok ys s2) (h3 : ys.length ≤ LIM) : ev C (.comp e t own it co) ρ st = .ok (.loc s2.length) (s2 ++ [.lst ys]) := by
  have q : ev C (.comp e t own it co) ρ st = (evI C it ρ st).bind fun w st => ((compL w (turnC C t own co e ρ) w.xs st).noex).bind fun ys st => if ys.length ≤ LIM then .ok (.loc st.length) (st ++ [.lst ys]) else .stuck := by
    rw [ev]; rfl
  rw [q, h1, R_bind_ok, h2, R_noex_ok, R_bind_ok, if_pos h3]
theorem t_one {e : IE} {t : IT} {own : List Nat} {ρ1 : Env} (h1 : asgT (wipeE ρ own) t x = some ρ1) (h2 : ev C e ρ1 st = .ok y s1) : turnC C t own .none e ρ x st = .ok (some y) s1 := by
  unfold turnC
  simp only [h1]
  rw [evC, R_bind_ok, if_pos rfl, h2]; rfl
/-- a comprehension over a fixed thing, the store staying -/
theorem compL_map {α : Type} {f : D → Sto → R (Option D)} {u v : α → D} {w : Wk} (hw : w.l = none) : ∀ (l : List α), (∀ a ∈ l, f (u a) st = .ok (some (v a)) st) → compL w f (l.map u) st = .ok (l.map v) st
  | [], _ => by rw [List.map_nil]; unfold compL; rw [if_pos (by unfold Wk.stays; rw [hw])]; rfl
  | a :: l, h => by
    rw [List.map_cons]
    unfold compL
    rw [if_pos (by unfold Wk.stays; rw [hw]), h a List.mem_cons_self, R_bind_ok, compL_map hw l fun y hy => h y (List.mem_cons_of_mem _ hy)]
    rfl
variable {F : Nat} {s : IS} {rs ss : ISs} {ρ1 : Env} {res : SR}
theorem b_nil : evSs C F .nil ρ st = .ok .nx ρ st := by rw [evSs]
theorem b_cons (h1 : evS C F s ρ st = .ok .nx ρ1 s1) (h2 : evSs C F ss ρ1 s1 = res) : evSs C F (.cons s ss) ρ st = res := by rw [evSs, h1, SR_then_nx, h2]
theorem b_rt {d : D} (h1 : evS C F s ρ st = .ok (.rt d) ρ1 s1) : evSs C F (.cons s ss) ρ st = .ok (.rt d) ρ1 s1 := by rw [evSs, h1]; rfl
theorem s_asg {t : IT} (h1 : ev C a ρ st = .ok x s1) (h2 : asgT ρ t x = some ρ1) : evS C F (.asg t a) ρ st = .ok .nx ρ1 s1 := by rw [evS, h1, R_sbind_ok]; simp only [h2]
theorem s_expr (h1 : ev C a ρ st = .ok x s1) : evS C F (.expr a) ρ st = .ok .nx ρ s1 := by rw [evS, h1]; rfl
theorem s_ret (h1 : ev C a ρ st = .ok x s1) : evS C F (.ret a) ρ st = .ok (.rt x) ρ s1 := by rw [evS, h1]; rfl
theorem s_setf {f : PySem.Str} {n cn : Nat} {fs : List (PySem.Str × D)} (h1 : ev C b ρ st = .ok y s1) (h2 : ev C a ρ s1 = .ok (.loc n) s2) (h3 : s2[n]? = some (.ins cn fs)) (h4 : fs.length < 1000) : evS C F (.setf a f b) ρ st = .ok .nx ρ (s2.set n (.ins cn (putF' f y fs))) := by
  rw [evS, h1, R_sbind_ok, h2, R_sbind_ok]
  simp only [h3]
  rw [if_pos h4]
theorem s_seti {n j : Nat} {z : Int} (h1 : ev C b ρ st = .ok y s1) (h2 : ev C a ρ s1 = .ok (.loc n) s2) (h3 : ev C i ρ s2 = .ok (.int z) s3) (h4 : s3[n]? = some (.lst xs)) (h5 : L2.ixN xs.length z = some j) : evS C F (.seti a i b) ρ st = .ok .nx ρ (s3.set n (.lst (xs.set j y))) := by
  rw [evS, h1, R_sbind_ok, h2, R_sbind_ok, h3, R_sbind_ok]
  simp only [h4, h5]
theorem s_iteT (h1 : ev C c ρ st = .ok (.bl true) s1) (h2 : evSs C F ss ρ s1 = res) : evS C F (.ite c ss rs) ρ st = res := by rw [evS, evT, h1, R_bind_ok, bOf_bl, R_sbind_ok, if_pos rfl, h2]
theorem s_iteF (h1 : ev C c ρ st = .ok (.bl false) s1) (h2 : evSs C F rs ρ s1 = res) : evS C F (.ite c ss rs) ρ st = res := by rw [evS, evT, h1, R_bind_ok, bOf_bl, R_sbind_ok, if_neg Bool.false_ne_true, h2]
theorem s_ifT (h1 : ev C c ρ st = .ok (.bl k) s1) (hk : k = true) (h2 : evSs C F ss ρ s1 = res) : evS C F (.ite c ss rs) ρ st = res := by subst hk; exact s_iteT h1 h2
theorem s_ifF (h1 : ev C c ρ st = .ok (.bl k) s1) (hk : k = false) (h2 : evSs C F rs ρ s1 = res) : evS C F (.ite c ss rs) ρ st = res := by subst hk; exact s_iteF h1 h2
theorem s_for {t : IT} {it : II} {w : Wk} (h1 : evI C it ρ st = .ok w s1) (h2 : loopF w t (evSs C F ss) w.xs ρ s1 = res) : evS C F (.for_ t it ss) ρ st = res := by rw [evS, h1, R_sbind_ok, h2]
/-- what a def hands back -/
theorem c_rt {pr : Prog} {k f : Nat} {fi : FnIR} (h : pr.fns[f]? = some fi) (hn : ds.length = fi.np) {ρ1 : Env} (e : evSs (pr.cl F k) F fi.body (ds.map some ++ List.replicate (fi.nl - fi.np) none) st = .ok (.rt d) ρ1 s1) : pr.call F (k + 1) f ds st = finish st (.ok d s1) := by
  rw [call_eq pr F k h hn, e, runB_rt]
theorem c_nx {pr : Prog} {k f : Nat} {fi : FnIR} (h : pr.fns[f]? = some fi) (hn : ds.length = fi.np) {ρ1 : Env} (e : evSs (pr.cl F k) F fi.body (ds.map some ++ List.replicate (fi.nl - fi.np) none) st = .ok .nx ρ1 s1) : pr.call F (k + 1) f ds st = finish st (.ok .non s1) := by
  rw [call_eq pr F k h hn, e, runB_nx]
/-! ### the operations -/
variable {n m : Nat} {z w : Int} {t u : Tx}
theorem d_mul (h : (-(2 ^ 64) < z ∧ z < 2 ^ 64) ∨ (-(2 ^ 64) < w ∧ w < 2 ^ 64)) : binD .mul (.int z) (.int w) st = .ok (.int (z * w)) st := by unfold binD; simp only; rw [if_pos h]
theorem d_fdiv (h : 0 < w ∧ w < 1073741824) : binD .fdiv (.int z) (.int w) st = .ok (.int (z / w)) st := by unfold binD; simp only; rw [if_pos h]
theorem d_mod (h : 0 < w) : binD .mod (.int z) (.int w) st = .ok (.int (z % w)) st := by unfold binD; simp only; rw [if_pos h]
theorem d_addS (h : t.length + u.length ≤ LIM) : binD .add (.str t) (.str u) st = .ok (.str (t ++ u)) st := by unfold binD; simp only; rw [if_pos h]
theorem d_addT {ts us : List D} (h : ts.length + us.length ≤ LIM) : binD .add (.tup ts) (.tup us) st = .ok (.tup (ts ++ us)) st := by unfold binD; simp only; rw [if_pos h]
theorem d_eq {b : Bool} (h : eqD st x y = some b) : cmpD .eq x y st = .ok (.bl b) st := by unfold cmpD; simp only; rw [h]; rfl
theorem d_ne {b : Bool} (h : eqD st x y = some b) : cmpD .ne x y st = .ok (.bl (!b)) st := by unfold cmpD; simp only; rw [h]; rfl
theorem d_eqL (h1 : st[n]? = some (.lst xs)) (h2 : st[m]? = some (.lst [])) : eqD st (.loc n) (.loc m) = some xs.isEmpty := by unfold eqD; simp only [h1, h2]
theorem d_ixL (h1 : st[n]? = some (.lst xs)) (h2 : L2.atI xs z = some d) : ixD (.loc n) (.int z) st = .ok d st := by
  unfold ixD; simp only [h1]; unfold ixS seqD; simp only [h1]; rw [ofO_some, R_bind_ok, h2]; rfl
theorem d_ixT (h2 : L2.atI xs z = some d) : ixD (.tup xs) (.int z) st = .ok d st := by
  unfold ixD; simp only; unfold ixS seqD; simp only; rw [ofO_some, R_bind_ok, h2]; rfl
theorem d_ixS {cd : Nat} (h : t.length ≤ LIM) (h2 : L2.atI t z = some cd) : ixD (.str t) (.int z) st = .ok (.str [cd]) st := by
  unfold ixD; simp only; unfold ixS; simp only; rw [if_pos h, h2]; rfl
theorem d_lenL (h1 : st[n]? = some (.lst xs)) : biD .len (.loc n) st = .ok (.int xs.length) st := by unfold biD seqD; simp only [h1]; rfl
theorem d_lenS (h : t.length ≤ LIM) : biD .len (.str t) st = .ok (.int t.length) st := by unfold biD; simp only; rw [if_pos h]
theorem d_tupL (h1 : st[n]? = some (.lst xs)) : biD .tuple (.loc n) st = .ok (.tup xs) st := by unfold biD seqD; simp only [h1]; rfl
theorem d_listL (h1 : st[n]? = some (.lst xs)) : biD .list (.loc n) st = .ok (.loc st.length) (st ++ [.lst xs]) := by unfold biD seqD; simp only [h1]; rfl
theorem d_revL (h1 : st[n]? = some (.lst xs)) : revD (.loc n) st = .ok (.loc st.length) (st ++ [.lst xs.reverse]) := by unfold revD lstD; simp only [h1]; rfl
theorem d_isiL {kd : Kd} (h1 : st[n]? = some (.lst xs)) : isiD (.loc n) kd st = .ok (.bl (decide (some Kd.lst = some kd ∨ (some Kd.lst = some .bool ∧ kd = .int)))) st := by unfold isiD kindD; simp only [h1]; rfl
theorem d_slS {lo hi : Option Int} (h : t.length ≤ LIM) : slD (.str t) lo hi st = .ok (.str (cutD t lo hi)) st := by unfold slD; simp only; rw [if_pos h]
theorem d_fld {f : PySem.Str} {cn : Nat} {fs : List (PySem.Str × D)} (h1 : st[n]? = some (.ins cn fs)) (h2 : fs.lookup f = some d) : fldD (.loc n) f st = .ok d st := by unfold fldD; simp only [h1]; rw [h2]; rfl
theorem r_lst {me : Me} (h1 : st[n]? = some (.lst xs)) (hm : me ≠ .join) (hs : me ≠ .split := by decide) : recvOk me st (.loc n) = true := by
  unfold recvOk; cases me <;> first | (exact absurd rfl hm) | (exact absurd rfl hs) | (simp [kindD, h1])
theorem d_pop {y : D} (h1 : st[n]? = some (.lst xs)) (h2 : xs.getLast? = some y) : me0D .pop (.loc n) st = .ok y (st.set n (.lst xs.dropLast)) := by unfold me0D; simp only [h1, h2]
theorem d_app (h1 : st[n]? = some (.lst xs)) (h2 : xs.length < LIM) : me1D .append (.loc n) y st = .ok .non (st.set n (.lst (xs ++ [y]))) := by unfold me1D; simp only [h1]; rw [if_pos h2]
theorem d_popAt {j : Nat} {y : D} (h1 : st[n]? = some (.lst xs)) (h2 : L2.ixN xs.length z = some j) (h3 : xs[j]? = some y) (h4 : xs.length ≤ LIM) : me1D .pop (.loc n) (.int z) st = .ok y (st.set n (.lst (xs.eraseIdx j))) := by
  unfold me1D; simp only [h1, h2, h3]; rw [if_pos h4]
theorem d_ext {ys : List D} (h1 : st[n]? = some (.lst xs)) (h2 : st[m]? = some (.lst ys)) (h3 : xs.length + ys.length ≤ LIM) : me1D .extend (.loc n) (.loc m) st = .ok .non (st.set n (.lst (xs ++ ys))) := by unfold me1D; simp only [h1, h2]; rw [if_pos h3]
theorem strsD_map (ts : List Tx) : strsD (ts.map D.str) = some ts := by
  induction ts with
  | nil => rfl
  | cons t ts ih => rw [List.map_cons, strsD, ih]
theorem d_join {sep : Tx} {ts : List Tx} (h1 : st[n]? = some (.lst (ts.map D.str))) (h2 : (ts.map List.length).sum + ts.length * sep.length ≤ LIM) : me1D .join (.str sep) (.loc n) st = .ok (.str (joinT sep ts)) st := by
  unfold me1D seqD; simp only [h1]; rw [ofO_some, R_bind_ok, strsD_map, ofO_some, R_bind_ok, if_pos h2]
theorem at_last {c : Cell} : (st ++ [c])[st.length]? = some c := by simp
theorem atI_0 {α : Type} {x : α} {xs : List α} : L2.atI (x :: xs) 0 = some x := by
  unfold L2.atI L2.ixN
  rw [if_pos (Int.le_refl 0), if_pos (by simp only [List.length_cons]; omega)]; rfl
theorem ixN_0 {n : Nat} : L2.ixN (n + 1) 0 = some 0 := by
  unfold L2.ixN
  rw [if_pos (Int.le_refl 0), if_pos (by omega)]; rfl
theorem atI_nat {α : Type} {xs : List α} {i : Nat} {x : α} (h : xs[i]? = some x) : L2.atI xs (i : Int) = some x := L2.atI_nat h
end
end Z
namespace Z
section
variable {C : Cl} {F : Nat} {st : Sto} {ρ : Env} {z w : Int}
theorem d_gtF (h : ¬ w < z) : cmpD .gt (.int z) (.int w) st = .ok (.bl false) st := by show R.ok (D.bl (decide _)) st = _; rw [decide_eq_false h]
theorem d_gtT (h : w < z) : cmpD .gt (.int z) (.int w) st = .ok (.bl true) st := by show R.ok (D.bl (decide _)) st = _; rw [decide_eq_true h]
theorem d_geF (h : ¬ w ≤ z) : cmpD .ge (.int z) (.int w) st = .ok (.bl false) st := by show R.ok (D.bl (decide _)) st = _; rw [decide_eq_false h]
theorem d_geT (h : w ≤ z) : cmpD .ge (.int z) (.int w) st = .ok (.bl true) st := by show R.ok (D.bl (decide _)) st = _; rw [decide_eq_true h]
theorem d_ltF (h : ¬ z < w) : cmpD .lt (.int z) (.int w) st = .ok (.bl false) st := by show R.ok (D.bl (decide _)) st = _; rw [decide_eq_false h]
theorem d_ltT (h : z < w) : cmpD .lt (.int z) (.int w) st = .ok (.bl true) st := by show R.ok (D.bl (decide _)) st = _; rw [decide_eq_true h]
theorem d_leF (h : ¬ z ≤ w) : cmpD .le (.int z) (.int w) st = .ok (.bl false) st := by show R.ok (D.bl (decide _)) st = _; rw [decide_eq_false h]
theorem d_leT (h : z ≤ w) : cmpD .le (.int z) (.int w) st = .ok (.bl true) st := by show R.ok (D.bl (decide _)) st = _; rw [decide_eq_true h]
theorem d_gt : cmpD .gt (.int z) (.int w) st = .ok (.bl (decide (w < z))) st := rfl
theorem d_memT {c : Nat} {y : Tx} (h : c ∈ y) : cmpD .mem (.str [c]) (.str y) st = .ok (.bl true) st := by show R.ok (D.bl (decide (c ∈ y))) st = _; rw [decide_eq_true h]
theorem d_nmemF {c : Nat} {y : Tx} (h : c ∈ y) : cmpD .nmem (.str [c]) (.str y) st = .ok (.bl false) st := by show R.ok (D.bl (!decide (c ∈ y))) st = _; rw [decide_eq_true h]; rfl
theorem w_stop {c : IE} {b : ISs} {n : Nat} {s1 : Sto} (h : ev C c ρ st = .ok (.bl false) s1) : loopW (evT C c) (evSs C F b) (n + 1) ρ st = .ok .nx ρ s1 := by
  unfold loopW; rw [evT, h, R_bind_ok, bOf_bl, R_sbind_ok, if_neg Bool.false_ne_true]
theorem w_turn {c : IE} {b : ISs} {n : Nat} {s1 s2 : Sto} {ρ1 : Env} {res : SR} (h : ev C c ρ st = .ok (.bl true) s1) (hb : evSs C F b ρ s1 = .ok .nx ρ1 s2)
    (hr : loopW (evT C c) (evSs C F b) n ρ1 s2 = res) : loopW (evT C c) (evSs C F b) (n + 1) ρ st = res := by
  unfold loopW; rw [evT, h, R_bind_ok, bOf_bl, R_sbind_ok, if_pos rfl, hb, SR_turn_nx, hr]
theorem s_whl {c : IE} {b : ISs} {res : SR} (h : loopW (evT C c) (evSs C F b) F ρ st = res) : evS C F (.whl c b) ρ st = res := by rw [evS, h]
/-- a walk's turns -/
theorem loop_fix {α : Type} {w : Wk} {t : IT} {b : Env → Sto → SR} (l : List α) (u : α → D) (P : Nat → Env → Sto → Prop)
    (hs : ∀ i ρ st, P i ρ st → w.stays st = true)
    (hstep : ∀ i a ρ st, l[i]? = some a → P i ρ st → ∃ ρ1 ρ2 st2, asgT ρ t (u a) = some ρ1 ∧ b ρ1 st = .ok .nx ρ2 st2 ∧ P (i + 1) ρ2 st2) :
    ∀ (n j : Nat) (ρ : Env) (st : Sto), j + n = l.length → P j ρ st → ∃ ρ' st', loopF w t b ((l.drop j).map u) ρ st = .ok .nx ρ' st' ∧ P l.length ρ' st' := by
  intro n
  induction n with
  | zero =>
    intro j ρ st h hp
    rw [List.drop_eq_nil_of_le (by omega)]
    refine ⟨ρ, st, ?_, by rwa [show l.length = j by omega]⟩
    rw [List.map_nil]; unfold loopF; rw [if_pos (hs _ _ _ hp)]
  | succ n ih =>
    intro j ρ st h hp
    have hj : j < l.length := by omega
    rw [List.drop_eq_getElem_cons hj, List.map_cons]
    obtain ⟨ρ1, ρ2, st2, h1, h2, h3⟩ := hstep j l[j] ρ st (List.getElem?_eq_getElem hj) hp
    obtain ⟨ρ', st', h4, h5⟩ := ih (j + 1) ρ2 st2 (by omega) h3
    refine ⟨ρ', st', ?_, h5⟩
    unfold loopF
    rw [if_pos (hs _ _ _ hp)]
    simp only [h1]
    rw [h2, SR_turn_nx, h4]
theorem loop_rng {t : IT} {b : Env → Sto → SR} (n : Nat) (P : Nat → Env → Sto → Prop)
    (hstep : ∀ i ρ st, i < n → P i ρ st → ∃ ρ1 ρ2 st2, asgT ρ t (.int (0 + (i : Int))) = some ρ1 ∧ b ρ1 st = .ok .nx ρ2 st2 ∧ P (i + 1) ρ2 st2) {ρ : Env} {st : Sto} (hp : P 0 ρ st) :
    ∃ ρ' st', loopF (rngW 0 n) t b (rngW 0 n).xs ρ st = .ok .nx ρ' st' ∧ P n ρ' st' := by
  have := loop_fix (w := rngW 0 n) (t := t) (b := b) (List.range n) (fun k : Nat => D.int (0 + (k : Int))) P (fun _ _ _ _ => rfl) (fun i a ρ st ha hp => by
    have h1 := List.getElem?_eq_some_iff.mp ha
    obtain ⟨h2, h3⟩ := h1
    rw [List.getElem_range] at h3
    subst h3
    exact hstep _ ρ st (by simpa using h2) hp) n 0 ρ st (by simp) hp
  rw [List.drop_zero, List.length_range] at this
  exact this
end
/-- the end of a call that changed one thing -/
theorem finish_set {st st1 : Sto} {d : D} {o : Nat} {c : Cell} (h : clD 0 d = true) (k : Keep [o] st st1) (ho : o < st.length) (hc : st1[o]? = some c) (hcl : clC st.length c = true) : finish st (.ok d st1) = .ok d (st.set o c) := by
  obtain ⟨st', e, k', l, at_⟩ := finish_keep (S := [o]) h k (fun i hi => by
    simp only [List.mem_cons, List.not_mem_nil, or_false] at hi
    subst hi; exact ⟨c, hc, hcl⟩)
  rw [e]
  congr 1
  refine List.ext_getElem? fun i => ?_
  by_cases hi : i < st.length
  · by_cases hio : i = o
    · subst hio; rw [at_ i hi, hc, List.getElem?_set_self hi]
    · rw [k'.at_ i hi (by simpa using hio), List.getElem?_set_ne (Ne.symm hio)]
  · rw [List.getElem?_eq_none (by omega), List.getElem?_eq_none (by simp; omega)]
/-! data without things -/
mutual
def purD : D → Bool
  | .loc _ => false
  | .fl _ => false
  | .tup xs => purDs xs
  | _ => true
def purDs : List D → Bool
  | [] => true
  | x :: xs => purD x && purDs xs
end
mutual
def depD : D → Nat
  | .tup xs => 1 + depDs xs
  | _ => 1
def depDs : List D → Nat
  | [] => 0
  | x :: xs => max (depD x) (depDs xs)
end
theorem purDs_mem {ts : List D} : ∀ {t : D}, purDs ts = true → t ∈ ts → purD t = true := by
  induction ts with
  | nil => intro t _ h; cases h
  | cons u us ih =>
    intro t o h
    rw [purDs, Bool.and_eq_true] at o
    rcases List.mem_cons.mp h with rfl | h
    · exact o.1
    · exact ih o.2 h
theorem depDs_mem {ts : List D} : ∀ {t : D}, t ∈ ts → depD t ≤ depDs ts := by
  induction ts with
  | nil => intro t h; cases h
  | cons u us ih =>
    intro t h
    rw [depDs]
    rcases List.mem_cons.mp h with rfl | h
    · exact Nat.le_max_left _ _
    · exact Nat.le_trans (ih h) (Nat.le_max_right _ _)
theorem depD_pos (d : D) : 1 ≤ depD d := by cases d <;> simp [depD]
mutual
def sizD : D → Nat
  | .tup xs => 1 + sizDs xs
  | _ => 1
def sizDs : List D → Nat
  | [] => 0
  | x :: xs => 1 + sizD x + sizDs xs
end
end Z
/-! evaluation by simp -/
namespace Z
section
variable {C : Cl} {ρ : Env} {st : Sto} {F : Nat} {a b c i e : IE} {es : IEs} {r : IEs} {lo hi : IO} {s : IS} {ss rs : ISs}
@[simp] theorem x_var (n : Nat) : ev C (.var n) ρ st = (match ρ[n]? with | some (some d) => .ok d st | _ => .stuck) := by rw [ev] <;> rfl
@[simp] theorem x_cst (d : D) : ev C (.cst d) ρ st = .ok d st := by rw [ev]
@[simp] theorem x_gl (d : D) : ev C (.gl d) ρ st = .ok d st := by rw [ev]
@[simp] theorem x_tup  : ev C (.tup es) ρ st = (evs C es ρ st).bind fun ds st => if ds.length ≤ LIM then .ok (.tup ds) st else .stuck := by rw [ev]
@[simp] theorem x_lst  : ev C (.lst es) ρ st = (evs C es ρ st).bind fun ds st => if ds.length ≤ LIM then .ok (.loc st.length) (st ++ [.lst ds]) else .stuck := by rw [ev]
@[simp] theorem x_bin (o : BOp) : ev C (.bin o a b) ρ st = (ev C a ρ st).bind fun x st => (ev C b ρ st).bind fun y st => binD o x y st := by rw [ev]
@[simp] theorem x_cmp (o : COp) : ev C (.cmp o a b) ρ st = (ev C a ρ st).bind fun x st => (ev C b ρ st).bind fun y st => cmpD o x y st := by rw [ev]
@[simp] theorem x_and  : ev C (.and a b) ρ st = (ev C a ρ st).bind fun x st => (bOf st x).bind fun k st => if k = true then (ev C b ρ st).bind fun y st => (bOf st y).bind fun j st => .ok (.bl j) st else .ok (.bl false) st := by rw [ev]
@[simp] theorem x_or  : ev C (.or a b) ρ st = (ev C a ρ st).bind fun x st => (bOf st x).bind fun k st => if k = true then .ok (.bl true) st else (ev C b ρ st).bind fun y st => (bOf st y).bind fun j st => .ok (.bl j) st := by rw [ev]
@[simp] theorem x_not  : ev C (.not a) ρ st = (ev C a ρ st).bind fun x st => (bOf st x).bind fun k st => .ok (.bl (!k)) st := by rw [ev]
@[simp] theorem x_ite  : ev C (.ite c a b) ρ st = (ev C c ρ st).bind fun x st => (bOf st x).bind fun k st => if k = true then ev C a ρ st else ev C b ρ st := by rw [ev]
@[simp] theorem x_ix  : ev C (.ix a i) ρ st = (ev C a ρ st).bind fun x st => (ev C i ρ st).bind fun y st => ixD x y st := by rw [ev]
@[simp] theorem x_sl  : ev C (.sl a lo hi) ρ st = (ev C a ρ st).bind fun x st => (evO C lo ρ st).bind fun l st => (evO C hi ρ st).bind fun h st => slD x l h st := by rw [ev]
@[simp] theorem x_rev  : ev C (.rev a) ρ st = (ev C a ρ st).bind fun x st => revD x st := by rw [ev]
@[simp] theorem x_fld (f : PySem.Str) : ev C (.fld a f) ρ st = (ev C a ρ st).bind fun x st => fldD x f st := by rw [ev]
@[simp] theorem x_isi (k : Kd) : ev C (.isi a k) ρ st = (ev C a ρ st).bind fun x st => isiD x k st := by rw [ev]
@[simp] theorem x_bi (o : Bi) : ev C (.bi o a) ρ st = (ev C a ρ st).bind fun x st => biD o x st := by rw [ev]
@[simp] theorem x_call (f : Nat) : ev C (.call f es) ρ st = (evs C es ρ st).bind fun ds st => C.call f ds st := by rw [ev]
@[simp] theorem x_me0 (m : Me) : ev C (.me0 m a) ρ st = (ev C a ρ st).bind fun x st => if recvOk m st x = true then me0D m x st else .stuck := by rw [ev]
@[simp] theorem x_me1 (m : Me) : ev C (.me1 m a b) ρ st = (ev C a ρ st).bind fun x st => if recvOk m st x = true then (ev C b ρ st).bind fun y st => me1D m x y st else .stuck := by rw [ev]
@[simp] theorem x_dnew (t : Bool) : ev C (.dnew t) ρ st = .ok (.loc st.length) (st ++ [if t = true then .dct [] else .dck []]) := by rw [ev]
@[simp] theorem x_cch (o o' : COp) : ev C (.cch o o' a b c) ρ st = (ev C a ρ st).bind fun x st => (ev C b ρ st).bind fun y st => (cmpD o x y st).bind fun z st => (bOf st z).bind fun k st => if k = true then (ev C c ρ st).bind fun w st => cmpD o' y w st else .ok (.bl false) st := by rw [ev]
@[simp] theorem xs_nil : evs C .nil ρ st = .ok [] st := by rw [evs]
@[simp] theorem xs_cons : evs C (.cons a r) ρ st = (ev C a ρ st).bind fun x st => (evs C r ρ st).bind fun xs st => .ok (x :: xs) st := by rw [evs]
@[simp] theorem xo_none : evO C .none ρ st = .ok none st := by rw [evO]
@[simp] theorem xo_some : evO C (.some a) ρ st = (ev C a ρ st).bind fun x st => (iOf st x).bind fun i st => .ok (some i) st := by rw [evO]
@[simp] theorem y_asg (t : IT) : evS C F (.asg t e) ρ st = (ev C e ρ st).sbind ρ fun x st => match asgT ρ t x with | some ρ' => .ok .nx ρ' st | none => .stuck := by rw [evS] <;> rfl
@[simp] theorem y_expr : evS C F (.expr e) ρ st = (ev C e ρ st).sbind ρ fun _ st => .ok .nx ρ st := by rw [evS]
@[simp] theorem y_ret : evS C F (.ret e) ρ st = (ev C e ρ st).sbind ρ fun x st => .ok (.rt x) ρ st := by rw [evS]
@[simp] theorem y_ite : evS C F (.ite c ss rs) ρ st = (ev C c ρ st).sbind ρ fun x st => (bOf st x).sbind ρ fun k st => if k = true then evSs C F ss ρ st else evSs C F rs ρ st := by rw [evS, evT]; cases ev C c ρ st <;> rfl
@[simp] theorem ys_nil : evSs C F .nil ρ st = .ok .nx ρ st := by rw [evSs]
@[simp] theorem ys_cons : evSs C F (.cons s ss) ρ st = (evS C F s ρ st).then (evSs C F ss) := by rw [evSs]
end
section
variable {st : Sto} {x y : D} {z w : Int} {t u : Tx} {xs ys : List D}
@[simp] theorem o_addI : binD .add (.int z) (.int w) st = .ok (.int (z + w)) st := (rfl)
@[simp] theorem o_subI : binD .sub (.int z) (.int w) st = .ok (.int (z - w)) st := (rfl)
@[simp] theorem o_addS : binD .add (.str t) (.str u) st = if t.length + u.length ≤ LIM then .ok (.str (t ++ u)) st else .stuck := (rfl)
@[simp] theorem o_addT : binD .add (.tup xs) (.tup ys) st = if xs.length + ys.length ≤ LIM then .ok (.tup (xs ++ ys)) st else .stuck := (rfl)
@[simp] theorem o_mulI : binD .mul (.int z) (.int w) st = if (-(2 ^ 64) < z ∧ z < 2 ^ 64) ∨ (-(2 ^ 64) < w ∧ w < 2 ^ 64) then .ok (.int (z * w)) st else .stuck := (rfl)
@[simp] theorem o_lt : cmpD .lt (.int z) (.int w) st = .ok (.bl (decide (z < w))) st := (rfl)
@[simp] theorem o_le : cmpD .le (.int z) (.int w) st = .ok (.bl (decide (z ≤ w))) st := (rfl)
@[simp] theorem o_gt : cmpD .gt (.int z) (.int w) st = .ok (.bl (decide (w < z))) st := (rfl)
@[simp] theorem o_ge : cmpD .ge (.int z) (.int w) st = .ok (.bl (decide (w ≤ z))) st := (rfl)
@[simp] theorem o_eq : cmpD .eq x y st = (ofO st (eqD st x y)).bind fun r st => .ok (.bl r) st := (rfl)
@[simp] theorem o_ne : cmpD .ne x y st = (ofO st (eqD st x y)).bind fun r st => .ok (.bl (!r)) st := (rfl)
@[simp] theorem o_isN : cmpD .isN x .non st = .ok (.bl (decide (x = .non))) st := (rfl)
@[simp] theorem o_notN : cmpD .notN x .non st = .ok (.bl (!decide (x = .non))) st := (rfl)
@[simp] theorem o_mem : cmpD .mem x y st = (ofO st (memD st x y)).bind fun r st => .ok (.bl r) st := (rfl)
@[simp] theorem o_nmem : cmpD .nmem x y st = (ofO st (memD st x y)).bind fun r st => .ok (.bl (!r)) st := (rfl)
@[simp] theorem q_int : eqD st (.int z) (.int w) = some (decide (z = w)) := (rfl)
@[simp] theorem q_str : eqD st (.str t) (.str u) = some (decide (t = u)) := (rfl)
@[simp] theorem q_tupE : eqD st (.tup xs) (.tup []) = some xs.isEmpty := (rfl)
@[simp] theorem m_str {c : Nat} : memD st (.str [c]) (.str u) = some (decide (c ∈ u)) := (rfl)
@[simp] theorem i_tup : ixD (.tup xs) (.int z) st = ofO st (L2.atI xs z) := (rfl)
@[simp] theorem k_int {k : Kd} : isiD (.int z) k st = .ok (.bl (decide (k = .int))) st := by cases k <;> rfl
@[simp] theorem k_str {k : Kd} : isiD (.str t) k st = .ok (.bl (decide (k = .str))) st := by cases k <;> rfl
@[simp] theorem k_tup {k : Kd} : isiD (.tup xs) k st = .ok (.bl (decide (k = .tup))) st := by cases k <;> rfl
@[simp] theorem k_non {k : Kd} : isiD .non k st = .ok (.bl false) st := by cases k <;> rfl
@[simp] theorem l_tup : biD .len (.tup xs) st = .ok (.int xs.length) st := (rfl)
@[simp] theorem l_str : biD .len (.str t) st = if t.length ≤ LIM then .ok (.int t.length) st else .stuck := (rfl)
@[simp] theorem at_0 {α : Type} {x : α} {xs : List α} : L2.atI (x :: xs) 0 = some x := atI_0
@[simp] theorem at_1 {α : Type} {x y : α} {xs : List α} : L2.atI (x :: y :: xs) 1 = some y := by
  have := atI_nat (xs := x :: y :: xs) (i := 1) (x := y) rfl
  exact this
@[simp] theorem at_2 {α : Type} {x y z : α} {xs : List α} : L2.atI (x :: y :: z :: xs) 2 = some z := by
  have := atI_nat (xs := x :: y :: z :: xs) (i := 2) (x := z) rfl
  exact this
@[simp] theorem at_3 {α : Type} {x y z u : α} {xs : List α} : L2.atI (x :: y :: z :: u :: xs) 3 = some u := by
  have := atI_nat (xs := x :: y :: z :: u :: xs) (i := 3) (x := u) rfl
  exact this
@[simp] theorem ag_name {ρ : Env} {i : Nat} : asgT ρ (.name i) x = some (ρ.set i (some x)) := (rfl)
end
/-! plain data: no bools, nothing that may change -/
mutual
def plD : D → Bool
  | .non => true | .int _ => true | .str x => decide (x.length ≤ LIM) && x.all fun c => decide (c < 1114112)
  | .tup xs => plDs xs
  | _ => false
def plDs : List D → Bool
  | [] => true
  | x :: xs => plD x && plDs xs
end
mutual
def pyD : D → PySem.PyData
  | .int i => .int i
  | .str x => .str (sOf x)
  | .tup xs => .tuple (pyDs xs)
  | _ => .none
def pyDs : List D → List PySem.PyData
  | [] => []
  | x :: xs => pyD x :: pyDs xs
end
mutual
theorem toPW_pl {f : Nat → Option PySem.PyData} : ∀ {d : D}, plD d = true → toPW f d = some (pyD d)
  | .non, _ => rfl
  | .int _, _ => rfl
  | .str _, _ => rfl
  | .tup xs, h => by rw [plD] at h; rw [toPW, toPWs_pl h, pyD]
  | .bl _, h => by cases h
  | .loc _, h => by cases h
  | .fl _, h => by cases h
theorem toPWs_pl {f : Nat → Option PySem.PyData} : ∀ {ds : List D}, plDs ds = true → toPWs f ds = some (pyDs ds)
  | [], _ => by rw [toPWs, pyDs]
  | d :: ds, h => by
    rw [plDs, Bool.and_eq_true] at h
    rw [toPWs, toPW_pl h.1, toPWs_pl h.2, pyDs]
end
theorem toP_pl {st : Sto} {n : Nat} {d : D} (h : plD d = true) : toP st n d = some (pyD d) := by
  cases n with
  | zero => exact toPW_pl h
  | succ n => exact toPW_pl h
mutual
theorem eqv_pl : ∀ {a b : D}, plD a = true → plD b = true → PySem.PyData.eqv (pyD a) (pyD b) = decide (a = b)
  | .non, b, _, h => by cases b <;> simp [plD] at h <;> simp [pyD, PySem.PyData.eqv]
  | .int i, b, _, h => by
    cases b <;> simp [plD] at h <;> simp [pyD, PySem.PyData.eqv]
    rename_i j
    by_cases e : i = j <;> simp [e]
  | .str x, b, _, h => by
    cases b <;> simp [plD] at h <;> simp [pyD, PySem.PyData.eqv]
    rename_i y
    by_cases e : x = y
    · simp [e]
    · have : ¬ sOf x = sOf y := fun z => e (by
        have : x.toArray = y.toArray := by injection z
        simpa using this)
      simp [e, this]
  | .tup xs, b, g, h => by
    cases b <;> simp [plD] at h
    · simp [pyD, PySem.PyData.eqv]
    · simp [pyD, PySem.PyData.eqv]
    · simp [pyD, PySem.PyData.eqv]
    · rename_i ys
      rw [plD] at g
      rw [pyD, pyD, PySem.PyData.eqv, eqvs_pl g h]
      by_cases e : xs = ys <;> simp [e]
  | .bl _, b, g, _ => by cases g
  | .loc _, b, g, _ => by cases g
  | .fl _, b, g, _ => by cases g
theorem eqvs_pl : ∀ {a b : List D}, plDs a = true → plDs b = true → PySem.PyData.eqvAll (pyDs a) (pyDs b) = decide (a = b)
  | [], [], _, _ => rfl
  | [], _ :: _, _, _ => by simp [pyDs, PySem.PyData.eqvAll]
  | _ :: _, [], _, _ => by simp [pyDs, PySem.PyData.eqvAll]
  | x :: xs, y :: ys, g, h => by
    rw [plDs, Bool.and_eq_true] at g h
    rw [pyDs, pyDs, PySem.PyData.eqvAll, eqv_pl g.1 h.1, eqvs_pl g.2 h.2]
    by_cases e : x = y <;> by_cases e' : xs = ys <;> simp [e, e']
end
mutual
theorem lay_pl : ∀ {a : D}, plD a = true → (pyD a).canLay0 = true
  | .non, _ => rfl
  | .int _, _ => rfl
  | .str x, h => by
    rw [plD, Bool.and_eq_true] at h
    show PySem.PyData.strOk (sOf x) = true
    unfold PySem.PyData.strOk sOf
    rw [← Array.all_toList, List.toList_toArray]
    exact h.2
  | .tup xs, h => by
    rw [plD] at h
    rw [pyD]
    show PySem.PyData.canLayAll0 (pyDs xs) = true
    exact lays_pl h
  | .bl _, g => by cases g
  | .loc _, g => by cases g
  | .fl _, g => by cases g
theorem lays_pl : ∀ {a : List D}, plDs a = true → PySem.PyData.canLayAll0 (pyDs a) = true
  | [], _ => rfl
  | x :: xs, h => by
    rw [plDs, Bool.and_eq_true] at h
    rw [pyDs, PySem.PyData.canLayAll0, lay_pl h.1, lays_pl h.2]; rfl
end
mutual
theorem dep_pl : ∀ (a : D), (pyD a).depth ≤ depD a
  | .non => by simp [pyD, PySem.PyData.depth, depD]
  | .int _ => by simp [pyD, PySem.PyData.depth, depD]
  | .str x => by simp [pyD, PySem.PyData.depth, depD]
  | .bl x => by simp [pyD, PySem.PyData.depth, depD]
  | .loc x => by simp [pyD, PySem.PyData.depth, depD]
  | .fl x => by simp [pyD, PySem.PyData.depth, depD]
  | .tup xs => by
    rw [pyD, PySem.PyData.depth, depD]
    have := deps_pl xs
    omega
theorem deps_pl : ∀ (a : List D), PySem.PyData.depthAll (pyDs a) ≤ depDs a
  | [] => by simp [pyDs, PySem.PyData.depthAll, depDs]
  | x :: xs => by
    rw [pyDs, PySem.PyData.depthAll, depDs]
    have := dep_pl x
    have := deps_pl xs
    omega
end
theorem eqG_pl {st : Sto} {a b : D} (ha : plD a = true) (hb : plD b = true) (hd : depD a ≤ 60) : eqG st a b = some (decide (a = b)) := by
  unfold eqG
  rw [toP_pl ha, toP_pl hb]
  simp only
  rw [if_pos ⟨lay_pl ha, lay_pl hb, by have := dep_pl a; have h2 : min (pyD a).depth (pyD b).depth ≤ (pyD a).depth := Nat.min_le_left _ _; omega⟩, eqv_pl ha hb]
theorem shaped_pl {a : D} (ha : plD a = true) (hd : depD a ≤ 60) : PySem.SeqAt.shaped (pyD a) = true := by
  unfold PySem.SeqAt.shaped
  rw [lay_pl ha, decide_eq_true (by have := dep_pl a; omega)]; rfl
theorem any_pl {a : D} (ha : plD a = true) : ∀ {xs : List D}, plDs xs = true → ((pyDs xs).any fun z => PySem.PyData.eqv z (pyD a)) = decide (a ∈ xs)
  | [], _ => by simp [pyDs]
  | x :: xs, h => by
    rw [plDs, Bool.and_eq_true] at h
    rw [pyDs, List.any_cons, eqv_pl h.1 ha, any_pl ha h.2]
    by_cases e : x = a
    · simp [e]
    · have e' : ¬ a = x := fun z => e z.symm
      by_cases e2 : a ∈ xs <;> simp [e, e', e2]
theorem memS_pl {st : Sto} {a : D} {xs : List D} (ha : plD a = true) (hx : plDs xs = true) (hd : depD a ≤ 60) (hd2 : depDs xs ≤ 59) : memS st a xs = some (decide (a ∈ xs)) := by
  unfold memS
  rw [toP_pl ha, toP_pl (d := .tup xs) (by rw [plD]; exact hx), pyD]
  simp only
  have h2 := shaped_pl (a := .tup xs) (by rw [plD]; exact hx) (by rw [depD]; omega)
  rw [pyD] at h2
  rw [if_pos ⟨shaped_pl ha hd, h2⟩, any_pl ha hx]
end Z
/-! rows for `simp`: what the operations do at a place of the store -/
namespace Z
@[simp] theorem R_bind_exc {α β : Type} (e : Ex) (st : Sto) (f : α → Sto → R β) : (R.exc e st : R α).bind f = .exc e st := (rfl)
@[simp] theorem R_sbind_exc {α : Type} (ρ : Env) (e : Ex) (st : Sto) (f : α → Sto → SR) : (R.exc e st : R α).sbind ρ f = .exc e ρ st := (rfl)
@[simp] theorem SR_then_exc (e : Ex) (ρ : Env) (st : Sto) (f : Env → Sto → SR) : (SR.exc e ρ st).then f = .exc e ρ st := (rfl)
@[simp] theorem SR_then_bk (ρ : Env) (st : Sto) (f : Env → Sto → SR) : (SR.ok .bk ρ st).then f = .ok .bk ρ st := (rfl)
@[simp] theorem SR_then_ct (ρ : Env) (st : Sto) (f : Env → Sto → SR) : (SR.ok .ct ρ st).then f = .ok .ct ρ st := (rfl)
@[simp] theorem runB_exc (e : Ex) (ρ : Env) (st : Sto) : runB (.exc e ρ st) = .exc e st := (rfl)
section
variable {C : Cl} {ρ : Env} {st : Sto} {a b c i e : IE} {es : IEs} {ss : ISs} {F n m : Nat} {x y d : D} {z w : Int} {t u : Tx} {xs ys : List D} {lo hi : Option Int}
@[simp] theorem y_seti : evS C F (.seti a i e) ρ st = (ev C e ρ st).sbind ρ fun y st => (ev C a ρ st).sbind ρ fun x st => (ev C i ρ st).sbind ρ fun k st => match x, k with
    | .loc n, .int i => (match st[n]? with
      | some (.lst xs) => (match L2.ixN xs.length i with | some j => .ok .nx ρ (st.set n (.lst (xs.set j y))) | none => .stuck)
      | some (.dck kvs) => if kvs.length < LIM then .ok .nx ρ (st.set n (.dck (dPut kvs k y))) else .stuck
      | _ => .stuck)
    | .loc n, .str _ => (match st[n]? with
      | some (.dck kvs) => if kvs.length < LIM then .ok .nx ρ (st.set n (.dck (dPut kvs k y))) else .stuck
      | _ => .stuck)
    | .loc n, .tup _ => (match st[n]? with
      | some (.dct kvs) => if keyT k = true ∧ kvs.length < LIM then .ok .nx ρ (st.set n (.dct (dPut kvs k y))) else .stuck
      | _ => .stuck)
    | _, _ => .stuck := by rw [evS] <;> rfl
@[simp] theorem y_setf {f : PySem.Str} : evS C F (.setf a f e) ρ st = (ev C e ρ st).sbind ρ fun y st => (ev C a ρ st).sbind ρ fun x st => match x with
    | .loc n => (match st[n]? with | some (.ins c fs) => if fs.length < 1000 then .ok .nx ρ (st.set n (.ins c (putF' f y fs))) else .stuck | _ => .stuck)
    | _ => .stuck := by rw [evS] <;> rfl
@[simp] theorem y_retN : evS C F .retN ρ st = .ok (.rt .non) ρ st := by rw [evS]
@[simp] theorem y_pass : evS C F .pass ρ st = .ok .nx ρ st := by rw [evS]
@[simp] theorem y_brk : evS C F .brk ρ st = .ok .bk ρ st := by rw [evS]
@[simp] theorem y_cont : evS C F .cont ρ st = .ok .ct ρ st := by rw [evS]
@[simp] theorem x_told : ev C (.told a) ρ st = toldR C.tw (ev C a ρ st) := by rw [ev]
@[simp] theorem toldR_ok {tw : Nat → Option (Tx × Option PySem.Str)} : toldR tw (.ok d st) = .ok d st := (rfl)
@[simp] theorem toldR_exc {tw : Nat → Option (Tx × Option PySem.Str)} {x : Ex} : toldR tw (.exc x st) = (match tw x.c, x.f with
    | some (w, none), none => .ok (.tup [.str w, .int 0]) st
    | some (w, some f), some (g, d) => if g = f then .ok (.tup [.str w, d]) st else .stuck
    | _, _ => .stuck) := (rfl)
@[simp] theorem x_mn2 {mx : Bool} : ev C (.mn2 mx a b) ρ st = (ev C a ρ st).bind fun x st => (ev C b ρ st).bind fun y st => (iOf st x).bind fun i st => (iOf st y).bind fun j st => .ok (.int (if mx = true then (if i < j then j else i) else (if j < i then j else i))) st := by rw [ev]
@[simp] theorem y_rais0 {cn : Nat} : evS C F (.rais0 cn) ρ st = .exc ⟨cn, none⟩ ρ st := by rw [evS]
@[simp] theorem y_rais1 {cn : Nat} {f : PySem.Str} : evS C F (.rais1 cn f e) ρ st = (ev C e ρ st).sbind ρ fun d st => .exc ⟨cn, some (f, d)⟩ ρ st := by rw [evS]
@[simp] theorem y_tryN : evS C F (.tryN ss) ρ st = (evSs C F ss ρ st).noex := by rw [evS]
@[simp] theorem SR_noex_ok {f : Fl} : (SR.ok f ρ st).noex = .ok f ρ st := (rfl)
@[simp] theorem x_mk {c : Nat} : ev C (.mk c es) ρ st = (evs C es ρ st).bind fun ds st => match C.ini c with
    | some f => (C.call f (.loc st.length :: ds) (st ++ [.ins c []])).bind fun r st' => if r = .non then .ok (.loc st.length) st' else .stuck
    | none => .stuck := by rw [ev] <;> rfl
@[simp] theorem x_om {nm : PySem.Str} : ev C (.om nm m a es) ρ st = (ev C a ρ st).bind fun x st => match x with
    | .loc n => (match st[n]? with
      | some (.ins c fs) => (match C.meth c m, fs.lookup nm with
        | some f, none => (evs C es ρ st).bind fun ds st => C.call f (.loc n :: ds) st
        | _, _ => .stuck)
      | _ => .stuck)
    | _ => .stuck := by rw [ev] <;> rfl
@[simp] theorem x_lrng1 : ev C (.lrng1 a) ρ st = (ev C a ρ st).bind fun x st => (iOf st x).bind fun i st => if 0 ≤ i ∧ i ≤ 100000 then .ok (.loc st.length) (st ++ [.lst (rngW 0 i.toNat).xs]) else .stuck := by rw [ev]
@[simp] theorem x_lrng2 : ev C (.lrng2 a b) ρ st = (ev C a ρ st).bind fun x st => (ev C b ρ st).bind fun y st => (iOf st x).bind fun i st => (iOf st y).bind fun j st =>
      if 0 ≤ i ∧ i ≤ 100000 ∧ 0 ≤ j ∧ j ≤ 100000 then .ok (.loc st.length) (st ++ [.lst (rngW i (j - i).toNat).xs]) else .stuck := by rw [ev]
@[simp] theorem xi_it : evI C (.it a) ρ st = (ev C a ρ st).bind fun x st => wkD x st := by rw [evI]
@[simp] theorem xi_rng1 : evI C (.rng1 a) ρ st = (ev C a ρ st).bind fun x st => (iOf st x).bind fun i st => if iLim i then .ok (rngW 0 i.toNat) st else .stuck := by rw [evI]
@[simp] theorem xi_rng2 : evI C (.rng2 a b) ρ st = (ev C a ρ st).bind fun x st => (ev C b ρ st).bind fun y st => (iOf st x).bind fun i st => (iOf st y).bind fun j st => if iLim i ∧ iLim j then .ok (rngW i (j - i).toNat) st else .stuck := by rw [evI]
@[simp] theorem xi_enum : evI C (.enum a) ρ st = (ev C a ρ st).bind fun x st => match x with
    | .loc _ => (wkD x st).bind fun w st => .ok w.enum st
    | .fl _ => (wkD x st).bind fun w st => .ok w.enum st
    | _ => .stuck := by rw [evI] <;> rfl
@[simp] theorem y_for {tg : IT} {it : II} : evS C F (.for_ tg it ss) ρ st = (evI C it ρ st).sbind ρ fun w st => loopF w tg (evSs C F ss) w.xs ρ st := by rw [evS]
@[simp] theorem y_whl : evS C F (.whl c ss) ρ st = loopW (evT C c) (evSs C F ss) F ρ st := by rw [evS]
theorem x_comp {e : IE} {tg : IT} {own : List Nat} {it : II} {co : IO} : ev C (.comp e tg own it co) ρ st = (evI C it ρ st).bind fun w st => ((compL w (turnC C tg own co e ρ) w.xs st).noex).bind fun ys st => if ys.length ≤ LIM then .ok (.loc st.length) (st ++ [.lst ys]) else .stuck := by rw [ev] <;> rfl
@[simp] theorem w_tup : wkD (.tup xs) st = .ok ⟨xs, none⟩ st := (rfl)
@[simp] theorem w_fl : wkD (.fl xs) st = .ok ⟨xs, none⟩ st := (rfl)
@[simp] theorem w_loc : wkD (.loc n) st = (match st[n]? with | some (.lst xs) => .ok ⟨xs, some (n, .lst xs)⟩ st | _ => .stuck) := (rfl)
/-- operators -/
@[simp] theorem o_fdivI : binD .fdiv (.int z) (.int w) st = if 0 < w ∧ w < 1073741824 then .ok (.int (z / w)) st else .stuck := (rfl)
@[simp] theorem o_modI : binD .mod (.int z) (.int w) st = if 0 < w then .ok (.int (z % w)) st else .stuck := (rfl)
@[simp] theorem o_mulT : binD .mul (.tup xs) (.int z) st = if xs ≠ [] ∧ 2 ≤ z ∧ z ≤ 1000 ∧ xs.length ≤ 1000 then .ok (.tup (List.replicate z.toNat xs).flatten) st else .stuck := (rfl)
@[simp] theorem o_addL : binD .add (.loc n) (.loc m) st = (match st[n]?, st[m]? with
    | some (.lst x), some (.lst y) => if x.length + y.length ≤ LIM then .ok (.loc st.length) (st ++ [.lst (x ++ y)]) else .stuck
    | _, _ => .stuck) := (rfl)
@[simp] theorem q_bl {p q : Bool} : eqD st (.bl p) (.bl q) = some (decide (p = q)) := (rfl)
@[simp] theorem q_loc : eqD st (.loc n) (.loc m) = (match st[n]?, st[m]? with
    | some (.lst xs), some (.lst []) => some xs.isEmpty
    | _, _ => eqG st (.loc n) (.loc m)) := (rfl)
@[simp] theorem i_loc : ixD (.loc n) (.int z) st = (match st[n]? with | some (.lst xs) => ofO st (L2.atI xs z) | some (.dck kvs) => ofO st (dGet kvs (.int z)) | _ => .stuck) := by
  show (match st[n]? with | some (.dct kvs) => if keyT (.int z) = true then ofO st (dGet kvs (.int z)) else .stuck | some (.dck kvs) => if keyK (.int z) = true then ofO st (dGet kvs (.int z)) else .stuck | _ => ixS (.loc n) (.int z) st) = _
  cases h : st[n]? with
  | none => simp [ixS, seqD, h, ofO, R.bind]
  | some c => cases c <;> simp [ixS, seqD, h, ofO, R.bind, keyT, keyK]
@[simp] theorem i_locS : ixD (.loc n) (.str t) st = (match st[n]? with | some (.dck kvs) => ofO st (dGet kvs (.str t)) | _ => .stuck) := by
  show (match st[n]? with | some (.dct kvs) => if keyT (.str t) = true then ofO st (dGet kvs (.str t)) else .stuck | some (.dck kvs) => if keyK (.str t) = true then ofO st (dGet kvs (.str t)) else .stuck | _ => ixS (.loc n) (.str t) st) = _
  cases h : st[n]? with
  | none => first | rfl | (simp only [h]; done) | (simp only [h]; rfl)
  | some c => cases c <;> first | rfl | (simp only [h]; done) | (simp only [h]; rfl)
@[simp] theorem i_locT : ixD (.loc n) (.tup xs) st = (match st[n]? with | some (.dct kvs) => if keyT (.tup xs) = true then ofO st (dGet kvs (.tup xs)) else .stuck | _ => .stuck) := by
  show (match st[n]? with | some (.dct kvs) => if keyT (.tup xs) = true then ofO st (dGet kvs (.tup xs)) else .stuck | some (.dck kvs) => if keyK (.tup xs) = true then ofO st (dGet kvs (.tup xs)) else .stuck | _ => ixS (.loc n) (.tup xs) st) = _
  cases h : st[n]? with
  | none => first | rfl | (simp only [h]; done) | (simp only [h]; rfl)
  | some c => cases c <;> first | rfl | (simp only [h]; done) | (simp only [h]; rfl)
@[simp] theorem i_str : ixD (.str t) (.int z) st = if t.length ≤ LIM then (ofO st (L2.atI t z)).bind fun c st => .ok (.str [c]) st else .stuck := (rfl)
@[simp] theorem s_str : slD (.str t) lo hi st = if t.length ≤ LIM then .ok (.str (cutD t lo hi)) st else .stuck := (rfl)
@[simp] theorem s_tup : slD (.tup xs) lo hi st = .ok (.tup (cutD xs lo hi)) st := (rfl)
@[simp] theorem s_loc : slD (.loc n) lo hi st = (match st[n]? with | some (.lst xs) => .ok (.loc st.length) (st ++ [.lst (cutD xs lo hi)]) | _ => .stuck) := by
  show (ofO st (lstD st (.loc n))).bind _ = _
  unfold lstD
  cases h : st[n]? with
  | none => first | rfl | (simp only [h]; done) | (simp only [h]; rfl)
  | some c => cases c <;> first | rfl | (simp only [h]; done) | (simp only [h]; rfl)
@[simp] theorem v_loc : revD (.loc n) st = (match st[n]? with | some (.lst xs) => .ok (.loc st.length) (st ++ [.lst xs.reverse]) | _ => .stuck) := by
  show (ofO st (lstD st (.loc n))).bind _ = _
  unfold lstD
  cases h : st[n]? with
  | none => first | rfl | (simp only [h]; done) | (simp only [h]; rfl)
  | some c => cases c <;> first | rfl | (simp only [h]; done) | (simp only [h]; rfl)
@[simp] theorem v_tup : revD (.tup xs) st = .ok (.tup xs.reverse) st := (rfl)
@[simp] theorem v_str : revD (.str t) st = if t.length ≤ LIM then .ok (.str t.reverse) st else .stuck := (rfl)
@[simp] theorem m_loc : memD st x (.loc n) = (match st[n]? with
    | some (.lst xs) => memS st x xs
    | some (.dct kvs) => if keyT x = true then some (dGet kvs x).isSome else none
    | some (.dck kvs) => if keyK x = true then some (dGet kvs x).isSome else none
    | _ => none) := (rfl)
@[simp] theorem f_loc {f : PySem.Str} : fldD (.loc n) f st = (match st[n]? with | some (.ins _ fs) => ofO st (fs.lookup f) | _ => .stuck) := (rfl)
@[simp] theorem k_bl {k : Kd} {p : Bool} : isiD (.bl p) k st = .ok (.bl (decide (k = .bool ∨ k = .int))) st := by cases k <;> rfl
@[simp] theorem k_loc {k : Kd} : isiD (.loc n) k st = (match st[n]? with | some (.lst _) => .ok (.bl (decide (k = .lst))) st | _ => .stuck) := by
  show (ofO st (kindD st (.loc n))).bind _ = _
  unfold kindD
  cases h : st[n]? with
  | none => first | rfl | (simp only [h]; done) | (simp only [h]; rfl)
  | some c => cases c <;> cases k <;> first | rfl | (simp only [h]; done) | (simp only [h]; rfl)
@[simp] theorem l_loc : biD .len (.loc n) st = (match st[n]? with | some (.lst xs) => .ok (.int xs.length) st | _ => .stuck) := by
  show (ofO st (seqD st (.loc n))).bind _ = _
  unfold seqD
  cases h : st[n]? with
  | none => first | rfl | (simp only [h]; done) | (simp only [h]; rfl)
  | some c => cases c <;> first | rfl | (simp only [h]; done) | (simp only [h]; rfl)
@[simp] theorem l_fl : biD .len (.fl xs) st = .ok (.int xs.length) st := (rfl)
@[simp] theorem b_intI : biD .int (.int z) st = .ok (.int z) st := (rfl)
@[simp] theorem b_intB {p : Bool} : biD .int (.bl p) st = .ok (.int (if p then 1 else 0)) st := (rfl)
@[simp] theorem b_intS : biD .int (.str t) st = (ofO st (digitT t)).bind fun i st => .ok (.int i) st := (rfl)
@[simp] theorem b_strI : biD .str (.int z) st = if 0 ≤ z ∧ z < 10 then .ok (.str [48 + z.toNat]) st else .stuck := (rfl)
@[simp] theorem b_strS : biD .str (.str t) st = .ok (.str t) st := (rfl)
@[simp] theorem b_listT : biD .list (.tup xs) st = .ok (.loc st.length) (st ++ [.lst xs]) := (rfl)
@[simp] theorem b_listF : biD .list (.fl xs) st = .ok (.loc st.length) (st ++ [.lst xs]) := (rfl)
@[simp] theorem b_listS : biD .list (.str t) st = if t.length ≤ LIM then .ok (.loc st.length) (st ++ [.lst (t.map fun c => D.str [c])]) else .stuck := (rfl)
@[simp] theorem b_listL : biD .list (.loc n) st = (match st[n]? with | some (.lst xs) => .ok (.loc st.length) (st ++ [.lst xs]) | _ => .stuck) := by
  show (ofO st (seqD st (.loc n))).bind _ = _
  unfold seqD
  cases h : st[n]? with
  | none => first | rfl | (simp only [h]; done) | (simp only [h]; rfl)
  | some c => cases c <;> first | rfl | (simp only [h]; done) | (simp only [h]; rfl)
@[simp] theorem b_tupT : biD .tuple (.tup xs) st = .ok (.tup xs) st := (rfl)
@[simp] theorem b_tupL : biD .tuple (.loc n) st = (match st[n]? with | some (.lst xs) => .ok (.tup xs) st | _ => .stuck) := by
  show (ofO st (seqD st (.loc n))).bind _ = _
  unfold seqD
  cases h : st[n]? with
  | none => first | rfl | (simp only [h]; done) | (simp only [h]; rfl)
  | some c => cases c <;> first | rfl | (simp only [h]; done) | (simp only [h]; rfl)
@[simp] theorem b_sumL : biD .sum (.loc n) st = (match st[n]? with | some (.lst xs) => (ofO st (intsD xs)).bind fun ns st => .ok (.int ns.sum) st | _ => .stuck) := by
  show (ofO st (lstD st (.loc n))).bind _ = _
  unfold lstD
  cases h : st[n]? with
  | none => first | rfl | (simp only [h]; done) | (simp only [h]; rfl)
  | some c => cases c <;> first | rfl | (simp only [h]; done) | (simp only [h]; rfl)
/-- methods -/
theorem recv_loc {me : Me} (h : me ≠ .join ∧ me ≠ .split) : recvOk me st (.loc n) = (match st[n]? with | some (.lst _) => true | _ => false) := by
  have e : recvOk me st (.loc n) = decide (kindD st (.loc n) = some (some .lst)) := by cases me <;> first | exact absurd rfl h.1 | exact absurd rfl h.2 | rfl
  rw [e]
  unfold kindD
  cases h : st[n]? with
  | none => first | rfl | (simp only [h]; done) | (simp only [h]; rfl)
  | some c => cases c <;> first | rfl | (simp only [h]; done) | (simp only [h]; rfl)
@[simp] theorem rc_append : recvOk .append st (.loc n) = (match st[n]? with | some (.lst _) => true | _ => false) := recv_loc (by decide)
@[simp] theorem rc_pop : recvOk .pop st (.loc n) = (match st[n]? with | some (.lst _) => true | _ => false) := recv_loc (by decide)
@[simp] theorem rc_extend : recvOk .extend st (.loc n) = (match st[n]? with | some (.lst _) => true | _ => false) := recv_loc (by decide)
@[simp] theorem rc_index : recvOk .index st (.loc n) = (match st[n]? with | some (.lst _) => true | _ => false) := recv_loc (by decide)
@[simp] theorem rc_join : recvOk .join st (.str t) = true := (rfl)
@[simp] theorem rc_clear : recvOk .clear st (.loc n) = (match st[n]? with | some (.lst _) => true | _ => false) := recv_loc (by decide)
@[simp] theorem rc_split : recvOk .split st (.str t) = true := (rfl)
@[simp] theorem me_split {c : Nat} : me1D .split (.str t) (.str [c]) st = if c < 256 ∧ t.length + 2 ≤ LIM then .ok (.loc st.length) (st ++ [.lst ((splitT c t).map D.str)]) else .stuck := (rfl)
@[simp] theorem me_clear : me0D .clear (.loc n) st = (match st[n]? with | some (.lst _) => .ok .non (st.set n (.lst [])) | _ => .stuck) := (rfl)
@[simp] theorem me_pop : me0D .pop (.loc n) st = (match st[n]? with
    | some (.lst xs) => (match xs.getLast? with | some x => .ok x (st.set n (.lst xs.dropLast)) | none => .stuck)
    | _ => .stuck) := (rfl)
@[simp] theorem me_append : me1D .append (.loc n) y st = (match st[n]? with
    | some (.lst xs) => if xs.length < LIM then .ok .non (st.set n (.lst (xs ++ [y]))) else .stuck
    | _ => .stuck) := (rfl)
@[simp] theorem me_popAt : me1D .pop (.loc n) (.int z) st = (match st[n]? with
    | some (.lst xs) => (match L2.ixN xs.length z with
      | some k => (match xs[k]? with | some x => if xs.length ≤ LIM then .ok x (st.set n (.lst (xs.eraseIdx k))) else .stuck | none => .stuck)
      | none => .stuck)
    | _ => .stuck) := by
  cases h : st[n]? with
  | none => simp [me1D, h]
  | some c => cases c <;> simp [me1D, h] <;> rfl
@[simp] theorem me_extend : me1D .extend (.loc n) (.loc m) st = (match st[n]?, st[m]? with
      | some (.lst xs), some (.lst ys) => if xs.length + ys.length ≤ LIM then .ok .non (st.set n (.lst (xs ++ ys))) else .stuck
      | _, _ => .stuck) := (rfl)
@[simp] theorem me_extendT : me1D .extend (.loc n) (.tup ys) st = (match st[n]? with
      | some (.lst xs) => if xs.length + ys.length ≤ LIM then .ok .non (st.set n (.lst (xs ++ ys))) else .stuck
      | _ => .stuck) := (rfl)
@[simp] theorem me_join : me1D .join (.str t) (.loc n) st = (match st[n]? with
    | some (.lst xs) => (ofO st (strsD xs)).bind fun ys st => if (ys.map List.length).sum + ys.length * t.length ≤ LIM then .ok (.str (joinT t ys)) st else .stuck
    | _ => .stuck) := by
  show (ofO st (seqD st (.loc n))).bind _ = _
  unfold seqD
  cases h : st[n]? with
  | none => first | rfl | (simp only [h]; done) | (simp only [h]; rfl)
  | some c => cases c <;> first | rfl | (simp only [h]; done) | (simp only [h]; rfl)
@[simp] theorem ag_tup {is : List Nat} : asgT ρ (.tup is) (.tup xs) = if xs.length = is.length then some ((is.zip xs).foldl (fun ρ p => ρ.set p.1 (some p.2)) ρ) else none := (rfl)
@[simp] theorem ixN_zero {n : Nat} : L2.ixN (n + 1) 0 = some 0 := ixN_0
@[simp] theorem ixN_one {n : Nat} : L2.ixN (n + 2) 1 = some 1 := by
  unfold L2.ixN
  rw [if_pos (by decide), if_pos (by omega)]; rfl
theorem ixN_nat {n i : Nat} (h : i < n) : L2.ixN n (i : Int) = some i := by
  unfold L2.ixN
  rw [if_pos (by omega), if_pos (by omega)]; rfl
@[simp] theorem cl_non {k : Nat} : clD k .non = true := (rfl)
@[simp] theorem cl_bl {k : Nat} {p : Bool} : clD k (.bl p) = true := (rfl)
@[simp] theorem cl_int {k : Nat} : clD k (.int z) = true := (rfl)
@[simp] theorem cl_str {k : Nat} : clD k (.str t) = true := (rfl)
@[simp] theorem cl_tup {k : Nat} : clD k (.tup xs) = clDs k xs := by rw [clD]
@[simp] theorem cls_nil {k : Nat} : clDs k [] = true := (rfl)
@[simp] theorem cls_cons {k : Nat} : clDs k (x :: xs) = (clD k x && clDs k xs) := by rw [clDs]
@[simp] theorem LIM_eq : LIM = 100000 := (rfl)
@[simp] theorem rng_l {lo : Int} {n : Nat} : (rngW lo n).l = none := (rfl)
@[simp] theorem stays_none {xs : List D} : (Wk.mk xs none).stays st = true := (rfl)
@[simp] theorem stays_rng {lo : Int} {n : Nat} : (rngW lo n).stays st = true := (rfl)
end
theorem split_join {c : Nat} {parts : List Tx} (hne : parts ≠ []) (h : ∀ p ∈ parts, c ∉ p) : splitT c (joinT [c] parts) = parts := by
  have e : joinT [c] parts = TL.joinL [c] parts := by
    clear hne h
    induction parts with
    | nil => rfl
    | cons x r ih => cases r with
      | nil => rfl
      | cons y r => show x ++ [c] ++ joinT [c] (y :: r) = _; rw [ih]; simp [TL.joinL]
  rw [e]
  exact SX.spl_join hne h
end Z
/-! the draws' box; stores by their ends -/
namespace Z
structure Bx where
  ns : List Int
  s : Int
  few : ns.length ≤ 63
/-- the box stands at 0, its numbers at 1 -/
def bx (β : Bx) (r : Sto) : Sto := .lst [.loc 1, .int β.s] :: .lst (β.ns.map D.int) :: r
section
variable {β γ : Bx} {r l : Sto} {n : Nat} {c : Cell}
@[simp] theorem bx_len : (bx β r).length = r.length + 2 := (rfl)
@[simp] theorem bx_app : bx β r ++ l = bx β (r ++ l) := (rfl)
@[simp high] theorem bx_get : (bx β r)[n + 2]? = r[n]? := (rfl)
@[simp] theorem bx_set : (bx β r).set (n + 2) c = bx β (r.set n c) := (rfl)
@[simp high] theorem bx_0 : (bx β r)[0]? = some (.lst [.loc 1, .int β.s]) := (rfl)
@[simp high] theorem bx_1 : (bx β r)[1]? = some (.lst (β.ns.map D.int)) := (rfl)
@[simp high] theorem bx_s1 {ns : List Int} {s s' : Int} {few} : (bx ⟨ns, s, few⟩ r).set 0 (.lst [.loc 1, .int s']) = bx ⟨ns, s', few⟩ r := (rfl)
@[simp high] theorem bx_s0 {ns : List Int} {s n n' : Int} {few} : (bx ⟨n :: ns, s, few⟩ r).set 1 (.lst (.int n' :: ns.map D.int)) = bx ⟨n' :: ns, s, few⟩ r := (rfl)
@[simp high] theorem bx_sp {ns : List Int} {s n : Int} {few} : (bx ⟨n :: ns, s, few⟩ r).set 1 (.lst (ns.map D.int)) = bx ⟨ns, s, Nat.le_of_succ_le few⟩ r := (rfl)
variable {st : Sto} {m : Nat}
@[simp high] theorem bx_get2 {a b : Nat} : (bx β r)[a + (b + 2)]? = r[a + b]? := (rfl)
@[simp high] theorem bx_set2 {a b : Nat} : (bx β r).set (a + (b + 2)) c = bx β (r.set (a + b) c) := (rfl)
@[simp high] theorem cons_get2 {a b : Nat} : (c :: r)[a + (b + 1)]? = r[a + b]? := (rfl)
@[simp high] theorem cons_set2 {a b : Nat} {d : Cell} : (c :: r).set (a + (b + 1)) d = c :: r.set (a + b) d := (rfl)
@[simp high] theorem end_0 : (st ++ l)[st.length]? = l[0]? := by rw [List.getElem?_append_right (Nat.le_refl _), Nat.sub_self]
@[simp high] theorem end_n : (st ++ l)[st.length + n]? = l[n]? := by rw [List.getElem?_append_right (by omega), Nat.add_sub_cancel_left]
@[simp] theorem ends_0 : (st ++ l).set st.length c = st ++ l.set 0 c := by rw [List.set_append_right _ _ (Nat.le_refl _), Nat.sub_self]
@[simp] theorem ends_n : (st ++ l).set (st.length + n) c = st ++ l.set n c := by rw [List.set_append_right _ _ (by omega), Nat.add_sub_cancel_left]
theorem oldOk_bx {d : Sto} : OldOk (bx β r) (bx γ (r ++ d)) := fun i hi => by
  match i with
  | 1 => exact .inr (by rw [bx_1, Option.map_some]; show some (clDs _ _) = _; rw [clDs_ints])
  | 0 => exact .inr (by rw [bx_0, Option.map_some]; simp [clC, clDs, clD])
  | n + 2 => exact .inl (by simp only [bx_get]; exact List.getElem?_append_left (by simpa using hi))
theorem fin_bx {d : D} {g : Sto} (h : clD 0 d = true) : finish (bx β r) (.ok d (bx γ (r ++ g))) = .ok d (bx γ r) := by
  rw [finish_old oldOk_bx (all_mono (Nat.zero_le _) (clD_locs h))]
  simp [bx]
theorem fin_bxs {d : D} {g : Sto} {k : Nat} (hc : clC (r.length + 2) c = true) (h : clD 0 d = true) : finish (bx β r) (.ok d (bx γ (r.set k c ++ g))) = .ok d (bx γ (r.set k c)) := by
  have ho : OldOk (bx β r) (bx γ (r.set k c ++ g)) := fun i hi => by
    match i with
    | 1 => exact .inr (by rw [bx_1, Option.map_some]; show some (clDs _ _) = _; rw [clDs_ints])
    | 0 => exact .inr (by rw [bx_0, Option.map_some]; simp [clC, clDs, clD])
    | n + 2 =>
      have hn : n < r.length := by simpa using hi
      rw [bx_get, bx_get, List.getElem?_append_left (by rw [List.length_set]; exact hn)]
      by_cases e : k = n
      · subst e
        right
        rw [List.getElem?_set_self hn, Option.map_some, bx_len, hc]
      · left
        rw [List.getElem?_set_ne e]
  rw [finish_old ho (all_mono (Nat.zero_le _) (clD_locs h))]
  simp [bx]
/-- .. that hands back a new list -/
theorem fin_bxL {g : Sto} {j : Nat} (hc : g[j]? = some c) (h : locsC c = []) : finish (bx β r) (.ok (.loc (r.length + (j + 2))) (bx γ (r ++ g))) = .ok (.loc (r.length + 2)) (bx γ (r ++ [c])) := by
  have e : (bx γ (r ++ g))[r.length + (j + 2)]? = some c := by
    rw [← Nat.add_assoc, bx_get, end_n]; exact hc
  rw [finish_one oldOk_bx (by simp) e (by rw [h]; rfl)]
  simp [bx]
theorem fin_bx0 {d : D} (h : clD 0 d = true) : finish (bx β r) (.ok d (bx γ r)) = .ok d (bx γ r) := by
  have := fin_bx (β := β) (γ := γ) (r := r) (g := []) h
  rwa [List.append_nil] at this
end
section
variable {C : Cl} {ρ : Env} {st s1 : Sto} {e a : IE} {tg : IT} {own : List Nat} {it : II} {co : IO} {w : Wk} {x : D}
@[simp] theorem turnC_eq : turnC C tg own co e ρ x st = (match asgT (wipeE ρ own) tg x with
      | some ρ' => (evC C co ρ' st).bind fun k st => if k = true then (ev C e ρ' st).bind fun y st => .ok (some y) st else .ok none st
      | none => .stuck) := (rfl)
@[simp] theorem xc_none : evC C .none ρ st = .ok true st := by rw [evC]
@[simp] theorem xc_some : evC C (.some a) ρ st = (ev C a ρ st).bind fun x st => bOf st x := by rw [evC]
@[simp] theorem wipe_nil : wipeE ρ [] = ρ := (rfl)
@[simp] theorem wipe_cons {v : Nat} {vs : List Nat} : wipeE ρ (v :: vs) = (wipeE ρ vs).set v none := (rfl)
/-- a comprehension that leaves the store -/
theorem compL_filt {α : Type} {f : D → Sto → R (Option D)} {u v : α → D} {p : α → Bool} (hw : w.stays st = true) : ∀ (l : List α), (∀ a ∈ l, f (u a) st = .ok (if p a = true then some (v a) else none) st) → compL w f (l.map u) st = .ok ((l.filter p).map v) st
  | [], _ => by rw [List.map_nil]; unfold compL; rw [if_pos hw]; rfl
  | a :: l, h => by
    rw [List.map_cons]
    unfold compL
    rw [if_pos hw, h a List.mem_cons_self, R_bind_ok, compL_filt hw l fun y hy => h y (List.mem_cons_of_mem _ hy), R_bind_ok]
    by_cases hp : p a = true
    · rw [if_pos hp, List.filter_cons_of_pos hp, List.map_cons]
    · rw [if_neg hp, List.filter_cons_of_neg hp]
theorem comp_filt {α : Type} {u v : α → D} {p : α → Bool} {l : List α} (hit : evI C it ρ st = .ok w s1) (hw : w.stays s1 = true) (hx : w.xs = l.map u) (hl : l.length ≤ LIM)
    (h : ∀ a ∈ l, turnC C tg own co e ρ (u a) s1 = .ok (if p a = true then some (v a) else none) s1) : ev C (.comp e tg own it co) ρ st = .ok (.loc s1.length) (s1 ++ [.lst ((l.filter p).map v)]) := by
  rw [x_comp, hit, R_bind_ok, hx, compL_filt hw l h, R_noex_ok, R_bind_ok, if_pos]
  rw [List.length_map]
  exact Nat.le_trans (List.length_filter_le _ _) hl
theorem comp_map {α : Type} {u v : α → D} {l : List α} (hit : evI C it ρ st = .ok w s1) (hw : w.stays s1 = true) (hx : w.xs = l.map u) (hl : l.length ≤ LIM)
    (h : ∀ a ∈ l, turnC C tg own co e ρ (u a) s1 = .ok (some (v a)) s1) : ev C (.comp e tg own it co) ρ st = .ok (.loc s1.length) (s1 ++ [.lst (l.map v)]) := by
  have := comp_filt (p := fun _ => true) (v := v) hit hw hx hl (fun a ha => h a ha)
  rwa [List.filter_eq_self.mpr (fun _ _ => rfl)] at this
/-- .. over range(n) -/
theorem comp_rng {v : Nat → D} {n : Nat} (hit : evI C it ρ st = .ok (rngW 0 n) s1) (hl : n ≤ LIM)
    (h : ∀ i : Nat, i < n → turnC C tg own co e ρ (.int (i : Int)) s1 = .ok (some (v i)) s1) : ev C (.comp e tg own it co) ρ st = .ok (.loc s1.length) (s1 ++ [.lst ((List.range n).map v)]) := by
  refine comp_map (u := fun (i : Nat) => D.int (0 + (i : Int))) hit rfl rfl (by rwa [List.length_range]) fun i hi => ?_
  rw [Int.zero_add]
  exact h i (List.mem_range.mp hi)
theorem comp_rngf {v : Nat → D} {p : Nat → Bool} {n : Nat} (hit : evI C it ρ st = .ok (rngW 0 n) s1) (hl : n ≤ LIM)
    (h : ∀ i : Nat, i < n → turnC C tg own co e ρ (.int (i : Int)) s1 = .ok (if p i = true then some (v i) else none) s1) : ev C (.comp e tg own it co) ρ st = .ok (.loc s1.length) (s1 ++ [.lst (((List.range n).filter p).map v)]) := by
  refine comp_filt (u := fun (i : Nat) => D.int (0 + (i : Int))) hit rfl rfl (by rwa [List.length_range]) fun i hi => ?_
  rw [Int.zero_add]
  exact h i (List.mem_range.mp hi)
theorem loop_nil {b : Env → Sto → SR} (hw : w.stays st = true) : loopF w tg b [] ρ st = .ok .nx ρ st := by unfold loopF; rw [if_pos hw]
theorem loop_cons {b : Env → Sto → SR} {xs : List D} {ρ1 ρ2 : Env} {st2 : Sto} {r : SR} (hw : w.stays st = true) (ha : asgT ρ tg x = some ρ1) (hb : b ρ1 st = .ok .nx ρ2 st2) (hr : loopF w tg b xs ρ2 st2 = r) : loopF w tg b (x :: xs) ρ st = r := by
  unfold loopF; rw [if_pos hw, ha]; simp only; rw [hb]; exact hr
theorem set_same {c : Cell} {n : Nat} (h : st[n]? = some c) : st.set n c = st := by
  refine List.ext_getElem? fun i => ?_
  by_cases hi : i = n
  · subst hi; rw [set_here h, h]
  · rw [List.getElem?_set_ne (Ne.symm hi)]
theorem compL_nil {f : D → Sto → R (Option D)} (hw : w.stays st = true) : compL w f [] st = .ok [] st := by unfold compL; rw [if_pos hw]
theorem compL_cons {f : D → Sto → R (Option D)} {xs ys : List D} {y : D} {s2 : Sto} (hw : w.stays st = true) (hf : f x st = .ok (some y) s1) (hr : compL w f xs s1 = .ok ys s2) : compL w f (x :: xs) st = .ok (y :: ys) s2 := by
  unfold compL; rw [if_pos hw, hf, R_bind_ok, hr]; rfl
theorem compL_skip {f : D → Sto → R (Option D)} {xs ys : List D} {s2 : Sto} (hw : w.stays st = true) (hf : f x st = .ok none s1) (hr : compL w f xs s1 = .ok ys s2) : compL w f (x :: xs) st = .ok ys s2 := by
  unfold compL; rw [if_pos hw, hf, R_bind_ok, hr]; rfl
/-- a comprehension by its turns -/
theorem comp_ok {ys : List D} {s2 : Sto} (hit : evI C it ρ st = .ok w s1) (h : compL w (turnC C tg own co e ρ) w.xs s1 = .ok ys s2) (hl : ys.length ≤ LIM) : ev C (.comp e tg own it co) ρ st = .ok (.loc s2.length) (s2 ++ [.lst ys]) := by
  rw [x_comp, hit, R_bind_ok, h, R_noex_ok, R_bind_ok, if_pos hl]
@[simp] theorem stays_w {w : Wk} (h : w.l = none) : w.stays st = true := by unfold Wk.stays; rw [h]
theorem rng_len {n : Nat} : (rngW 0 n).xs.length = n := by simp [rngW]
/-- a walk by an invariant -/
theorem for_inv {α : Type} {b : Env → Sto → SR} (l : List α) (u : α → D) (P : Nat → Env → Sto → Prop) (hx : w.xs = l.map u) (hs : ∀ i ρ st, P i ρ st → w.stays st = true)
    (hstep : ∀ i a ρ st, l[i]? = some a → P i ρ st → ∃ ρ1 ρ2 st2, asgT ρ tg (u a) = some ρ1 ∧ (b ρ1 st = .ok .nx ρ2 st2 ∨ b ρ1 st = .ok .ct ρ2 st2) ∧ P (i + 1) ρ2 st2) (h0 : P 0 ρ st) :
    ∃ ρ' st', loopF w tg b w.xs ρ st = .ok .nx ρ' st' ∧ P l.length ρ' st' := by
  have key : ∀ (n j : Nat) (ρ : Env) (st : Sto), j + n = l.length → P j ρ st → ∃ ρ' st', loopF w tg b ((l.drop j).map u) ρ st = .ok .nx ρ' st' ∧ P l.length ρ' st' := by
    intro n
    induction n with
    | zero =>
      intro j ρ st h hp
      rw [List.drop_eq_nil_of_le (by omega)]
      refine ⟨ρ, st, ?_, by rwa [show l.length = j by omega]⟩
      rw [List.map_nil]; unfold loopF; rw [if_pos (hs _ _ _ hp)]
    | succ n ih =>
      intro j ρ st h hp
      have hj : j < l.length := by omega
      rw [List.drop_eq_getElem_cons hj, List.map_cons]
      obtain ⟨ρ1, ρ2, st2, h1, h2, h3⟩ := hstep j l[j] ρ st (List.getElem?_eq_getElem hj) hp
      obtain ⟨ρ', st', h4, h5⟩ := ih (j + 1) ρ2 st2 (by omega) h3
      refine ⟨ρ', st', ?_, h5⟩
      unfold loopF
      rw [if_pos (hs _ _ _ hp), h1]
      simp only
      rcases h2 with h2 | h2
      · rw [h2]; exact h4
      · rw [h2]; exact h4
  have := key l.length 0 ρ st (by simp) h0
  rwa [List.drop_zero, ← hx] at this
theorem for_rng {b : Env → Sto → SR} {n : Nat} (P : Nat → Env → Sto → Prop)
    (hstep : ∀ i ρ st, i < n → P i ρ st → ∃ ρ1 ρ2 st2, asgT ρ tg (.int (i : Int)) = some ρ1 ∧ (b ρ1 st = .ok .nx ρ2 st2 ∨ b ρ1 st = .ok .ct ρ2 st2) ∧ P (i + 1) ρ2 st2) (h0 : P 0 ρ st) :
    ∃ ρ' st', loopF (rngW 0 n) tg b (rngW 0 n).xs ρ st = .ok .nx ρ' st' ∧ P n ρ' st' := by
  have := for_inv (w := rngW 0 n) (tg := tg) (b := b) (ρ := ρ) (st := st) (List.range n) (fun (i : Nat) => D.int (0 + (i : Int))) P rfl (fun _ _ _ _ => rfl) (fun i a ρ st ha hp => by
    obtain ⟨h2, h3⟩ := List.getElem?_eq_some_iff.mp ha
    rw [List.getElem_range] at h3
    subst h3
    rw [Int.zero_add]
    exact hstep _ ρ st (by simpa using h2) hp) h0
  rwa [List.length_range] at this
/-- a while by a measure -/
theorem whl_inv {F : Nat} {c : IE} {b : ISs} {res : SR → Prop} (P : Nat → Env → Sto → Prop)
    (hstep : ∀ n ρ st, P n ρ st → (∃ s1, ev C c ρ st = .ok (.bl false) s1 ∧ res (.ok .nx ρ s1)) ∨ (∃ s1 ρ2 s2 m, ev C c ρ st = .ok (.bl true) s1 ∧ evSs C F b ρ s1 = .ok .nx ρ2 s2 ∧ m < n ∧ P m ρ2 s2) ∨
      ∃ s1 r, ev C c ρ st = .ok (.bl true) s1 ∧ evSs C F b ρ s1 = r ∧ (∀ f, r.turn f = r) ∧ res r) : ∀ (f n : Nat) (ρ : Env) (st : Sto), n < f → P n ρ st → res (loopW (evT C c) (evSs C F b) f ρ st) := by
  intro f
  induction f with
  | zero => intro n ρ st h; omega
  | succ f ih =>
    intro n ρ st hn hp
    rcases hstep n ρ st hp with ⟨s1, h1, h2⟩ | ⟨s1, ρ2, s2, m, h1, h2, h3, h4⟩ | ⟨s1, r, h1, h2, h3, h4⟩
    · rw [w_stop h1]; exact h2
    · rw [w_turn h1 h2 rfl]; exact ih m ρ2 s2 (by omega) h4
    · unfold loopW
      rw [evT, h1, R_bind_ok, bOf_bl, R_sbind_ok, if_pos rfl, h2, h3]
      exact h4
end
/-! plain data -/
mutual
theorem pl_cl {n : Nat} : ∀ {d : D}, plD d = true → clD n d = true
  | .non, _ => rfl
  | .int _, _ => rfl
  | .str _, _ => rfl
  | .tup xs, h => by rw [plD] at h; rw [clD]; exact pls_cl h
  | .bl _, h => by cases h
  | .loc _, h => by cases h
  | .fl _, h => by cases h
theorem pls_cl {n : Nat} : ∀ {d : List D}, plDs d = true → clDs n d = true
  | [], _ => rfl
  | x :: xs, h => by rw [plDs, Bool.and_eq_true] at h; rw [clDs, pl_cl h.1, pls_cl h.2]; rfl
end
mutual
theorem pl_locs : ∀ {d : D}, plD d = true → locsD d = []
  | .non, _ => rfl
  | .int _, _ => rfl
  | .str _, _ => rfl
  | .tup xs, h => by rw [plD] at h; rw [locsD]; exact pls_locs h
  | .bl _, h => by cases h
  | .loc _, h => by cases h
  | .fl _, h => by cases h
theorem pls_locs : ∀ {d : List D}, plDs d = true → locsDs d = []
  | [], _ => rfl
  | x :: xs, h => by rw [plDs, Bool.and_eq_true] at h; rw [locsDs, pl_locs h.1, pls_locs h.2]; rfl
end
mutual
theorem pl_pur : ∀ {d : D}, plD d = true → purD d = true
  | .non, _ => rfl
  | .int _, _ => rfl
  | .str _, _ => rfl
  | .tup xs, h => by rw [plD] at h; rw [purD]; exact pls_pur h
  | .bl _, h => by cases h
  | .loc _, h => by cases h
  | .fl _, h => by cases h
theorem pls_pur : ∀ {d : List D}, plDs d = true → purDs d = true
  | [], _ => rfl
  | x :: xs, h => by rw [plDs, Bool.and_eq_true] at h; rw [purDs, pl_pur h.1, pls_pur h.2]; rfl
end
theorem plDs_map {α : Type} {u : α → D} : ∀ {l : List α}, (∀ a ∈ l, plD (u a) = true) → plDs (l.map u) = true
  | [], _ => rfl
  | a :: l, h => by rw [List.map_cons, plDs, h a List.mem_cons_self, plDs_map fun b hb => h b (List.mem_cons_of_mem _ hb)]; rfl
theorem depDs_map {α : Type} {u : α → D} {n : Nat} : ∀ {l : List α}, (∀ a ∈ l, depD (u a) ≤ n) → depDs (l.map u) ≤ n
  | [], _ => Nat.zero_le _
  | a :: l, h => by
    rw [List.map_cons, depDs]
    have := h a List.mem_cons_self
    have := depDs_map fun b hb => h b (List.mem_cons_of_mem _ hb)
    omega
theorem oldOk_nil (st : Sto) : OldOk [] st := fun i hi => absurd hi (by simp)
theorem fin_eq (st0 st : Sto) (d : D) : finish st0 (.ok d st) = if OldOk st0 st then gcD st0.length (reach st0.length st 40 (locsD d) []) d st else .ok d st := rfl
theorem rnDs_free' {g : Nat → Nat} {ds : List D} (h : locsDs ds = []) : rnDs g ds = ds := rnDs_id (p := fun _ => false) (fun _ z => by cases z) (by rw [h]; rfl)
theorem fin_begun {ns : List Int} {s : Int} {hl : ns.length ≤ 63} : finish [] (.ok (.loc 1) [.lst (ns.map D.int), .lst [.loc 0, .int s]]) = .ok (.loc 0) (bx ⟨ns, s, hl⟩ []) := by
  have hl : locsDs (ns.map D.int) = [] := by
    clear hl
    induction ns with
    | nil => rfl
    | cons x xs ih => rw [List.map_cons, locsDs, ih]; rfl
  rw [fin_eq, if_pos (oldOk_nil _)]
  have hr : reach 0 [.lst (ns.map D.int), .lst [.loc 0, .int s]] 40 (locsD (.loc 1)) [] = [1, 0] := by
    have h1 : locsC (.lst [.loc 0, .int s]) = [0] := rfl
    have h0 : locsC (.lst (ns.map D.int)) = [] := hl
    show reach 0 _ 40 [1] [] = _
    rw [reach, if_neg (by simp)]
    show reach 0 _ 39 ([] ++ locsC (.lst [.loc 0, .int s])) ([] ++ [1]) = _
    rw [h1]
    show reach 0 _ 39 [0] [1] = _
    rw [reach, if_neg (by simp)]
    show reach 0 _ 38 ([] ++ locsC (.lst (ns.map D.int))) ([1] ++ [0]) = _
    rw [h0]; rfl
  show gcD 0 (reach 0 _ 40 _ []) _ _ = _
  rw [hr]
  unfold gcD
  rw [if_pos]
  · show R.ok (D.loc (newN 0 [1, 0] 1)) ([] ++ [rnC _ (.lst [.loc 0, .int s]), rnC _ (.lst (ns.map D.int))]) = _
    have e1 : newN 0 [1, 0] 1 = 0 := rfl
    have e0 : newN 0 [1, 0] 0 = 1 := rfl
    show R.ok _ [Cell.lst [.loc (newN 0 [1, 0] 0), .int s], Cell.lst (rnDs _ (ns.map D.int))] = _
    rw [e1, e0, rnDs_free' hl]; rfl
  · refine ⟨by simp, ?_, by simp [locsD, okN]⟩
    intro k hk
    simp only [List.mem_cons, List.not_mem_nil, or_false] at hk
    rcases hk with rfl | rfl
    · exact ⟨Nat.zero_le _, by simp [locsC, locsDs, locsD, okN]⟩
    · refine ⟨Nat.zero_le _, ?_⟩
      show some ((locsDs (ns.map D.int)).all _) = _
      rw [hl]; rfl
section
variable {α : Type}
theorem cut_take (xs : List α) (n : Nat) : cutD xs none (some (n : Int)) = xs.take n := by
  unfold cutD
  rw [HT.sIx_none, HT.sIx_nat, List.drop_zero, Nat.sub_zero]
  by_cases h : n ≤ xs.length
  · rw [Nat.min_eq_left h]
  · rw [Nat.min_eq_right (by omega), List.take_length, List.take_of_length_le (by omega)]
@[simp] theorem cut_take1 (xs : List α) : cutD xs none (some 1) = xs.take 1 := cut_take xs 1
theorem cut_drop (xs : List α) (n : Nat) : cutD xs (some (n : Int)) none = xs.drop n := by
  unfold cutD
  rw [HT.sIx_none, HT.sIx_nat]
  by_cases h : n ≤ xs.length
  · rw [Nat.min_eq_left h, List.take_of_length_le (by rw [List.length_drop]; omega)]
  · rw [Nat.min_eq_right (by omega), Nat.sub_self, List.take_zero, List.drop_eq_nil_of_le (by omega)]
@[simp] theorem cut_drop1 (xs : List α) : cutD xs (some 1) none = xs.drop 1 := cut_drop xs 1
@[simp] theorem cut_init (xs : List α) : cutD xs none (some (-1)) = xs.dropLast := by
  unfold cutD
  rw [HT.sIx_none, List.drop_zero, Nat.sub_zero, List.dropLast_eq_take]
  congr 1
  unfold HT.sIx
  simp only
  rw [if_pos (by decide)]; omega
@[simp] theorem cut_all (xs : List α) : cutD xs none none = xs := by
  unfold cutD
  rw [HT.sIx_none, HT.sIx_none, List.drop_zero, Nat.sub_zero, List.take_length]
end
end Z
/-! trees, patterns, builds, rules as data -/
namespace Z
inductive T where
  | node (c : Nat) (ks : List T)

mutual
def dT : T → D
  | .node c ks => .tup [.str [c], .tup (dTs ks)]
def dTs : List T → List D
  | [] => []
  | t :: ts => dT t :: dTs ts
end
mutual
def sz : T → Nat
  | .node _ ks => 1 + szs ks
def szs : List T → Nat
  | [] => 0
  | t :: ts => sz t + szs ts
end
mutual
def ht : T → Nat
  | .node _ ks => 1 + hts ks
def hts : List T → Nat
  | [] => 0
  | t :: ts => max (ht t) (hts ts)
end
mutual
def okT : T → Prop
  | .node c ks => (97 ≤ c ∧ c ≤ 102) ∧ ks.length ≤ 3 ∧ okTs ks
def okTs : List T → Prop
  | [] => True
  | t :: ts => okT t ∧ okTs ts
end
mutual
def tx : T → Tx
  | .node c ks => if ks.isEmpty = true then [c] else c :: 40 :: (joinT [44] (txs ks) ++ [41])
def txs : List T → List Tx
  | [] => []
  | t :: ts => tx t :: txs ts
end
theorem dTs_map : ∀ ts : List T, dTs ts = ts.map dT
  | [] => by rw [dTs]; rfl
  | t :: ts => by rw [dTs, dTs_map ts]; rfl
theorem txs_map : ∀ ts : List T, txs ts = ts.map tx
  | [] => by rw [txs]; rfl
  | t :: ts => by rw [txs, txs_map ts]; rfl
theorem hts_le {ts : List T} : ∀ {t : T}, t ∈ ts → ht t ≤ hts ts := by
  induction ts with
  | nil => intro t h; cases h
  | cons u us ih =>
    intro t h
    rw [hts]
    rcases List.mem_cons.mp h with rfl | h
    · exact Nat.le_max_left _ _
    · exact Nat.le_trans (ih h) (Nat.le_max_right _ _)
theorem okTs_mem {ts : List T} : ∀ {t : T}, okTs ts → t ∈ ts → okT t := by
  induction ts with
  | nil => intro t _ h; cases h
  | cons u us ih =>
    intro t o h
    rw [okTs] at o
    rcases List.mem_cons.mp h with rfl | h
    · exact o.1
    · exact ih o.2 h
mutual
theorem dT_cl : ∀ (t : T), clD 0 (dT t) = true
  | .node c ks => by
    rw [dT]
    simp only [clD, clDs, Bool.and_true, Bool.true_and]
    exact dTs_cl ks
theorem dTs_cl : ∀ (ts : List T), clDs 0 (dTs ts) = true
  | [] => by rw [dTs]; rfl
  | t :: ts => by rw [dTs, clDs, dT_cl t, dTs_cl ts]; rfl
end
theorem join_len (ts : List Tx) : (joinT [44] ts).length ≤ (ts.map List.length).sum + ts.length := by
  induction ts with
  | nil => simp [joinT]
  | cons x r ih =>
    cases r with
    | nil => simp [joinT]
    | cons y r =>
      rw [joinT]
      simp only [List.length_append, List.length_cons, List.length_nil, List.map_cons, List.sum_cons] at ih ⊢
      omega
mutual
theorem tx_len : ∀ (t : T), (tx t).length + 2 ≤ 4 * sz t
  | .node c ks => by
    rw [tx, sz]
    split
    · simp; omega
    · rename_i h
      have h1 := txs_len ks
      have h2 := join_len (txs ks)
      have h3 : (txs ks).length = ks.length := by rw [txs_map]; simp
      have h4 : 1 ≤ ks.length := by cases ks with
        | nil => simp at h
        | cons => simp
      simp only [List.length_cons, List.length_append, List.length_nil]
      omega
theorem txs_len : ∀ (ts : List T), ((txs ts).map List.length).sum + 2 * ts.length ≤ 4 * szs ts
  | [] => by rw [txs, szs]; simp
  | t :: ts => by
    have h1 := tx_len t
    have h2 := txs_len ts
    rw [txs, szs]
    simp only [List.map_cons, List.sum_cons, List.length_cons]
    omega
end

theorem isE_dTs (ks : List T) : (dTs ks).isEmpty = ks.isEmpty := by cases ks <;> simp [dTs]
theorem szs_mem {ts : List T} : ∀ {t : T}, t ∈ ts → sz t ≤ szs ts := by
  induction ts with
  | nil => intro t h; cases h
  | cons u us ih =>
    intro t h
    rw [szs]
    rcases List.mem_cons.mp h with rfl | h
    · omega
    · have := ih h; omega
theorem ht_pos (t : T) : 1 ≤ ht t := by cases t; rw [ht]; omega

theorem dTs_app (a b : List T) : dTs (a ++ b) = dTs a ++ dTs b := by rw [dTs_map, dTs_map, dTs_map, List.map_append]
theorem take_int {L : List Nat} {r : Int} (h0 : 0 ≤ r) (h1 : r < L.length) : ∃ x, x ∈ L ∧ L2.atI L r = some x := by
  obtain ⟨n, rfl⟩ := Int.eq_ofNat_of_zero_le h0
  have h : n < L.length := by omega
  exact ⟨L[n], List.getElem_mem h, atI_nat (List.getElem?_eq_getElem h)⟩
theorem szs_app (a b : List T) : szs (a ++ b) = szs a + szs b := by
  induction a with
  | nil => simp [szs]
  | cons x a ih => rw [List.cons_append, szs, szs, ih]; omega
theorem hts_app (a b : List T) : hts (a ++ b) = max (hts a) (hts b) := by
  induction a with
  | nil => simp [hts]
  | cons x a ih => rw [List.cons_append, hts, hts, ih]; omega
theorem okTs_app (a b : List T) : okTs (a ++ b) ↔ okTs a ∧ okTs b := by
  induction a with
  | nil => simp [okTs]
  | cons x a ih => rw [List.cons_append, okTs, okTs, ih, and_assoc]

inductive Pt where
  | any | leaf | node (c : Nat) (ks : List Pt)
mutual
def dP : Pt → D
  | .any => (.tup [.str [97, 110, 121]])
  | .leaf => (.tup [.str [108, 101, 97, 102]])
  | .node c ks => .tup [.str [c], .tup (dPs ks)]
def dPs : List Pt → List D
  | [] => []
  | t :: ts => dP t :: dPs ts
end
mutual
def szP : Pt → Nat
  | .any => 1 | .leaf => 1
  | .node _ ks => 1 + szPs ks
def szPs : List Pt → Nat
  | [] => 0
  | t :: ts => szP t + szPs ts
end
mutual
def htP : Pt → Nat
  | .any => 1 | .leaf => 1
  | .node _ ks => 1 + htPs ks
def htPs : List Pt → Nat
  | [] => 0
  | t :: ts => max (htP t) (htPs ts)
end
mutual
def okP : Pt → Prop
  | .any => True | .leaf => True
  | .node c ks => (97 ≤ c ∧ c ≤ 102) ∧ ks.length ≤ 3 ∧ okPs ks
def okPs : List Pt → Prop
  | [] => True
  | t :: ts => okP t ∧ okPs ts
end
theorem dPs_map : ∀ ts : List Pt, dPs ts = ts.map dP
  | [] => by rw [dPs]; rfl
  | t :: ts => by rw [dPs, dPs_map ts]; rfl
theorem htPs_le {ts : List Pt} : ∀ {t : Pt}, t ∈ ts → htP t ≤ htPs ts := by
  induction ts with
  | nil => intro t h; cases h
  | cons u us ih =>
    intro t h
    rw [htPs]
    rcases List.mem_cons.mp h with rfl | h
    · exact Nat.le_max_left _ _
    · exact Nat.le_trans (ih h) (Nat.le_max_right _ _)
theorem okPs_mem {ts : List Pt} : ∀ {t : Pt}, okPs ts → t ∈ ts → okP t := by
  induction ts with
  | nil => intro t _ h; cases h
  | cons u us ih =>
    intro t o h
    rw [okPs] at o
    rcases List.mem_cons.mp h with rfl | h
    · exact o.1
    · exact ih o.2 h
theorem szPs_mem {ts : List Pt} : ∀ {t : Pt}, t ∈ ts → szP t ≤ szPs ts := by
  induction ts with
  | nil => intro t h; cases h
  | cons u us ih =>
    intro t h
    rw [szPs]
    rcases List.mem_cons.mp h with rfl | h
    · omega
    · have := ih h; omega
theorem htP_pos (t : Pt) : 1 ≤ htP t := by cases t <;> rw [htP] <;> omega
mutual
theorem dP_pl : ∀ t : Pt, okP t → plD (dP t) = true
  | .any, _ => by rw [dP]; decide
  | .leaf, _ => by rw [dP]; decide
  | .node c ks, h => by
    rw [okP] at h
    rw [dP]
    simp only [plD, plDs, dPs_pl ks h.2.2, Bool.and_true, List.all_cons, List.all_nil, decide_eq_true_eq, Bool.and_eq_true, List.length_cons, List.length_nil]
    exact ⟨by decide, by omega⟩
theorem dPs_pl : ∀ ts : List Pt, okPs ts → plDs (dPs ts) = true
  | [], _ => by rw [dPs]; rfl
  | t :: ts, h => by
    rw [okPs] at h
    rw [dPs, plDs, dP_pl t h.1, dPs_pl ts h.2]; rfl
end
mutual
theorem dP_dep : ∀ t : Pt, depD (dP t) ≤ 2 * htP t + 1
  | .any => by rw [dP, htP]; decide
  | .leaf => by rw [dP, htP]; decide
  | .node c ks => by rw [dP, htP]; simp only [depD, depDs]; have := dPs_dep ks; omega
theorem dPs_dep : ∀ ts : List Pt, depDs (dPs ts) ≤ 2 * htPs ts + 1
  | [] => by rw [dPs]; simp [depDs]
  | t :: ts => by rw [dPs, depDs, htPs]; have := dP_dep t; have := dPs_dep ts; omega
end

theorem szPs_sum (ts : List Pt) : (ts.map fun t => (szP t : Int)).sum = (szPs ts : Int) := by
  induction ts with
  | nil => rfl
  | cons t ts ih => rw [List.map_cons, List.sum_cons, ih, szPs]; omega

inductive Bd where
  | go (s : Nat) (p : List Nat)
  | node (c : Nat) (ks : List Bd)
def dPa (p : List Nat) : D := .tup (p.map fun (i : Nat) => D.int i)
mutual
def dB : Bd → D
  | .go s p => .tup [.str [100, 111], .int s, dPa p]
  | .node c ks => .tup [.str [c], .tup (dBs ks)]
def dBs : List Bd → List D
  | [] => []
  | t :: ts => dB t :: dBs ts
end
mutual
def szB : Bd → Nat
  | .go _ _ => 1
  | .node _ ks => 1 + szBs ks
def szBs : List Bd → Nat
  | [] => 0
  | t :: ts => szB t + szBs ts
end
mutual
def htB : Bd → Nat
  | .go _ _ => 1
  | .node _ ks => 1 + htBs ks
def htBs : List Bd → Nat
  | [] => 0
  | t :: ts => max (htB t) (htBs ts)
end
/-- the part of a pattern at a path -/
def subP : Pt → List Nat → Option Pt
  | p, [] => some p
  | .node _ ks, i :: r => match ks[i]? with | some q => subP q r | none => none
  | _, _ :: _ => none
mutual
def okB (P : Pt) : Bd → Prop
  | .go s p => s ≤ 5 ∧ 1 ≤ p.length ∧ p.length ≤ 2 ∧ ∃ q, subP P p = some q
  | .node c ks => (97 ≤ c ∧ c ≤ 102) ∧ ks.length ≤ 3 ∧ okBs P ks
def okBs (P : Pt) : List Bd → Prop
  | [] => True
  | t :: ts => okB P t ∧ okBs P ts
end
theorem dBs_map : ∀ ts : List Bd, dBs ts = ts.map dB
  | [] => by rw [dBs]; rfl
  | t :: ts => by rw [dBs, dBs_map ts]; rfl
theorem htBs_le {ts : List Bd} : ∀ {t : Bd}, t ∈ ts → htB t ≤ htBs ts := by
  induction ts with
  | nil => intro t h; cases h
  | cons u us ih =>
    intro t h
    rw [htBs]
    rcases List.mem_cons.mp h with rfl | h
    · exact Nat.le_max_left _ _
    · exact Nat.le_trans (ih h) (Nat.le_max_right _ _)
theorem szBs_mem {ts : List Bd} : ∀ {t : Bd}, t ∈ ts → szB t ≤ szBs ts := by
  induction ts with
  | nil => intro t h; cases h
  | cons u us ih =>
    intro t h
    rw [szBs]
    rcases List.mem_cons.mp h with rfl | h
    · omega
    · have := ih h; omega
theorem okBs_mem {P : Pt} {ts : List Bd} : ∀ {t : Bd}, okBs P ts → t ∈ ts → okB P t := by
  induction ts with
  | nil => intro t _ h; cases h
  | cons u us ih =>
    intro t o h
    rw [okBs] at o
    rcases List.mem_cons.mp h with rfl | h
    · exact o.1
    · exact ih o.2 h
theorem htB_pos (t : Bd) : 1 ≤ htB t := by cases t <;> rw [htB] <;> omega
theorem szBs_sum (ts : List Bd) : (ts.map fun t => (szB t : Int)).sum = (szBs ts : Int) := by
  induction ts with
  | nil => rfl
  | cons t ts ih => rw [List.map_cons, List.sum_cons, ih, szBs]; omega

/-! spots, rules -/
inductive Sp where
  | no | top | under (c : Nat) | kid (i : Nat)
def dSp : Sp → D
  | .no => .non
  | .top => .tup [.str [116, 111, 112]]
  | .under c => .tup [.str [117, 110, 100, 101, 114], .str [c]]
  | .kid i => .tup [.str [107, 105, 100], .int i]
def okSp : Sp → Prop
  | .no => True | .top => True
  | .under c => 97 ≤ c ∧ c ≤ 102
  | .kid i => i ≤ 2
theorem dSp_pl (s : Sp) (h : okSp s) : plD (dSp s) = true := by
  cases s with
  | no => rfl
  | top => decide
  | under c =>
    have h : 97 ≤ c ∧ c ≤ 102 := h
    simp [dSp, plD, plDs, LIM]; omega
  | kid i => simp [dSp, plD, plDs, LIM]
theorem dSp_dep (s : Sp) : depD (dSp s) ≤ 2 := by cases s <;> simp [dSp, depD, depDs]

structure Ru where
  s : Nat
  sp : Sp
  p : Pt
  b : Bd
def dR (r : Ru) : D := .tup [.int r.s, dSp r.sp, dP r.p, dB r.b]
structure okR (r : Ru) : Prop where
  s : r.s ≤ 5
  sp : okSp r.sp
  p : okP r.p
  ph : htP r.p ≤ 3
  pz : szP r.p ≤ 7
  b : okB r.p r.b
  bh : htB r.b ≤ 4
  bz : szB r.b ≤ 12

end Z
/-! trees, patterns, builds, rules: plain data -/
namespace Z
mutual
theorem dT_pl : ∀ t : T, okT t → plD (dT t) = true
  | .node c ks, h => by
    rw [okT] at h
    rw [dT]
    simp only [plD, plDs, dTs_pl ks h.2.2, Bool.and_true, List.all_cons, List.all_nil, decide_eq_true_eq, Bool.and_eq_true, List.length_cons, List.length_nil]
    exact ⟨by decide, by omega⟩
theorem dTs_pl : ∀ ts : List T, okTs ts → plDs (dTs ts) = true
  | [], _ => by rw [dTs]; rfl
  | t :: ts, h => by
    rw [okTs] at h
    rw [dTs, plDs, dT_pl t h.1, dTs_pl ts h.2]; rfl
end
mutual
theorem dT_dep : ∀ t : T, depD (dT t) ≤ 2 * ht t + 1
  | .node c ks => by rw [dT, ht]; simp only [depD, depDs]; have := dTs_dep ks; omega
theorem dTs_dep : ∀ ts : List T, depDs (dTs ts) ≤ 2 * hts ts + 1
  | [] => by rw [dTs]; simp [depDs]
  | t :: ts => by rw [dTs, depDs, hts]; have := dT_dep t; have := dTs_dep ts; omega
end
theorem dPa_pl (p : List Nat) : plD (dPa p) = true := by
  unfold dPa
  rw [plD]
  exact plDs_map fun _ _ => rfl
theorem dPa_dep (p : List Nat) : depD (dPa p) ≤ 2 := by
  unfold dPa
  rw [depD]
  have := depDs_map (u := fun (i : Nat) => D.int i) (n := 1) (l := p) fun _ _ => by simp [depD]
  omega
mutual
theorem dB_pl {P : Pt} : ∀ t : Bd, okB P t → plD (dB t) = true
  | .go s p, h => by rw [dB]; simp [plD, plDs, dPa_pl, LIM]
  | .node c ks, h => by
    rw [okB] at h
    rw [dB]
    simp only [plD, plDs, dBs_pl ks h.2.2, Bool.and_true, List.all_cons, List.all_nil, decide_eq_true_eq, Bool.and_eq_true, List.length_cons, List.length_nil]
    exact ⟨by decide, by omega⟩
theorem dBs_pl {P : Pt} : ∀ ts : List Bd, okBs P ts → plDs (dBs ts) = true
  | [], _ => by rw [dBs]; rfl
  | t :: ts, h => by
    rw [okBs] at h
    rw [dBs, plDs, dB_pl t h.1, dBs_pl ts h.2]; rfl
end
mutual
theorem dB_dep : ∀ t : Bd, depD (dB t) ≤ 2 * htB t + 1
  | .go s p => by rw [dB, htB]; simp only [depD, depDs]; have := dPa_dep p; omega
  | .node c ks => by rw [dB, htB]; simp only [depD, depDs]; have := dBs_dep ks; omega
theorem dBs_dep : ∀ ts : List Bd, depDs (dBs ts) ≤ 2 * htBs ts + 1
  | [] => by rw [dBs]; simp [depDs]
  | t :: ts => by rw [dBs, depDs, htBs]; have := dB_dep t; have := dBs_dep ts; omega
end
theorem dR_pl {r : Ru} (h : okR r) : plD (dR r) = true := by
  unfold dR
  simp [plD, plDs, dSp_pl _ h.sp, dP_pl _ h.p, dB_pl _ h.b]
theorem dR_dep {r : Ru} (h : okR r) : depD (dR r) ≤ 10 := by
  unfold dR
  have h1 := dSp_dep r.sp
  have h2 := dP_dep r.p
  have h3 := dB_dep r.b
  have := h.ph
  have := h.bh
  simp only [depD, depDs]
  omega
/-- rules of a book -/
structure okBk (rs : List Ru) : Prop where
  few : rs.length ≤ 16
  ok : ∀ r ∈ rs, okR r
theorem okBk.pl {rs : List Ru} (h : okBk rs) : plDs (rs.map dR) = true := plDs_map fun r hr => dR_pl (h.ok r hr)
theorem okBk.dep {rs : List Ru} (h : okBk rs) : depDs (rs.map dR) ≤ 10 := depDs_map fun r hr => dR_dep (h.ok r hr)
mutual
theorem sizD_T : ∀ t : T, sizD (dT t) + 1 ≤ 6 * sz t
  | .node c ks => by rw [dT, sz]; simp only [sizD, sizDs]; have := sizDs_T ks; omega
theorem sizDs_T : ∀ ts : List T, sizDs (dTs ts) ≤ 6 * szs ts
  | [] => by rw [dTs]; simp [sizDs]
  | t :: ts => by rw [dTs, sizDs, szs]; have := sizD_T t; have := sizDs_T ts; omega
end
theorem sz_pos (t : T) : 1 ≤ sz t := by cases t; rw [sz]; omega
end Z
/-! what fits; places; the parts of patterns -/
namespace Z
mutual
def fitsP : Pt → T → Bool
  | .any, _ => true
  | .leaf, .node _ ks => ks.isEmpty
  | .node c ps, .node d ks => decide (c = d) && fitsPs ps ks
def fitsPs : List Pt → List T → Bool
  | [], [] => true
  | p :: ps, k :: ks => fitsP p k && fitsPs ps ks
  | _, _ => false
end
theorem fitsPs_len : ∀ {ps : List Pt} {ks : List T}, ps.length ≠ ks.length → fitsPs ps ks = false
  | [], [], h => absurd rfl h
  | [], _ :: _, _ => by rw [fitsPs] <;> simp
  | _ :: _, [], _ => by rw [fitsPs] <;> simp
  | p :: ps, k :: ks, h => by
    rw [fitsPs, fitsPs_len (by simpa using h), Bool.and_false]
theorem fitsPs_range : ∀ {ps : List Pt} {ks : List T}, ps.length = ks.length → ((List.range ks.length).filter fun i => !fitsP (ps.getD i .any) (ks.getD i (.node 0 []))).isEmpty = fitsPs ps ks
  | [], [], _ => rfl
  | [], _ :: _, h => by cases h
  | _ :: _, [], h => by cases h
  | p :: ps, k :: ks, h => by
    rw [fitsPs, ← fitsPs_range (by simpa using h), List.length_cons, List.range_succ_eq_map, List.filter_cons, List.filter_map]
    simp only [List.getD_cons_zero]
    cases hp : fitsP p k
    · simp
    · simp only [Bool.not_true, Bool.false_eq_true, if_false, Bool.true_and, List.isEmpty_map]
      rfl
mutual
/-- all places, in turn -/
def plT : T → List (List Nat × T)
  | .node c ks => ([], .node c ks) :: plTs 0 ks
def plTs (i : Nat) : List T → List (List Nat × T)
  | [] => []
  | t :: ts => (plT t).map (fun p => (i :: p.1, p.2)) ++ plTs (i + 1) ts
end
mutual
theorem plT_len : ∀ t : T, (plT t).length = sz t
  | .node c ks => by rw [plT, sz, List.length_cons, plTs_len 0 ks]; omega
theorem plTs_len : ∀ (i : Nat) (ts : List T), (plTs i ts).length = szs ts
  | i, [] => rfl
  | i, t :: ts => by rw [plTs, szs, List.length_append, List.length_map, plT_len t, plTs_len (i + 1) ts]
end
mutual
theorem plT_mem : ∀ {t : T} {p : List Nat × T}, p ∈ plT t → (okT t → okT p.2) ∧ p.1.length + ht p.2 ≤ ht t
  | .node c ks, p, h => by
    rw [plT] at h
    rcases List.mem_cons.mp h with rfl | h
    · exact ⟨id, by simp⟩
    · have := plTs_mem h
      rw [okT, ht]
      exact ⟨fun o => this.1 o.2.2, by omega⟩
theorem plTs_mem : ∀ {i : Nat} {ts : List T} {p : List Nat × T}, p ∈ plTs i ts → (okTs ts → okT p.2) ∧ p.1.length + ht p.2 ≤ hts ts + 1
  | i, [], p, h => nomatch h
  | i, t :: ts, p, h => by
    rw [plTs] at h
    rw [okTs, hts]
    rcases List.mem_append.mp h with h | h
    · obtain ⟨q, hq, rfl⟩ := List.mem_map.mp h
      have := plT_mem hq
      exact ⟨fun o => this.1 o.1, by simp only [List.length_cons]; omega⟩
    · have := plTs_mem h
      exact ⟨fun o => this.1 o.2, by omega⟩
end
/-- kids stand behind -/
def Ord : List (List Nat × T) → Prop
  | [] => True
  | (p, .node _ ks) :: B => (∀ k, k < ks.length → ∃ t, ks[k]? = some t ∧ (p ++ [k], t) ∈ B) ∧ Ord B
theorem Ord.app : ∀ {A B : List (List Nat × T)}, Ord A → Ord B → Ord (A ++ B)
  | [], B, _, h => h
  | (p, .node _ ks) :: A, B, h, g => ⟨fun k hk => by
      obtain ⟨t, h1, h2⟩ := h.1 k hk
      exact ⟨t, h1, List.mem_append.mpr (.inl h2)⟩, Ord.app h.2 g⟩
theorem Ord.pre (q : List Nat) : ∀ {A : List (List Nat × T)}, Ord A → Ord (A.map fun p => (q ++ p.1, p.2))
  | [], _ => trivial
  | (p, .node _ ks) :: A, h => ⟨fun k hk => by
      obtain ⟨t, h1, h2⟩ := h.1 k hk
      exact ⟨t, h1, List.mem_map.mpr ⟨(p ++ [k], t), h2, by simp⟩⟩, Ord.pre q h.2⟩
theorem plTs_at : ∀ {i k : Nat} {ts : List T} {t : T}, ts[k]? = some t → ([i + k], t) ∈ plTs i ts
  | i, 0, t :: ts, _, h => by
    cases h
    rw [plTs]
    cases t
    rw [plT]
    simp
  | i, k + 1, t :: ts, u, h => by
    rw [plTs]
    have := plTs_at (i := i + 1) (ts := ts) (k := k) (by simpa using h)
    rw [show i + 1 + k = i + (k + 1) by omega] at this
    exact List.mem_append.mpr (.inr this)
mutual
theorem plT_ord : ∀ t : T, Ord (plT t)
  | .node c ks => by
    rw [plT]
    refine ⟨fun k hk => ⟨ks[k], List.getElem?_eq_getElem hk, ?_⟩, plTs_ord 0 ks⟩
    have := plTs_at (i := 0) (List.getElem?_eq_getElem hk)
    simpa using this
theorem plTs_ord : ∀ (i : Nat) (ts : List T), Ord (plTs i ts)
  | i, [] => trivial
  | i, t :: ts => by
    rw [plTs]
    exact Ord.app (Ord.pre [i] (plT_ord t)) (plTs_ord (i + 1) ts)
end
/-- the tree at a place -/
def subT : T → List Nat → Option T
  | t, [] => some t
  | .node _ ks, i :: r => match ks[i]? with | some q => subT q r | none => none
mutual
theorem plT_sub : ∀ {t : T} {p : List Nat × T}, p ∈ plT t → subT t p.1 = some p.2
  | .node c ks, p, h => by
    rw [plT] at h
    rcases List.mem_cons.mp h with rfl | h
    · rw [subT]
    · obtain ⟨k, r, e1, e2, e3⟩ := plTs_sub h
      rw [e1, subT]
      obtain ⟨u, h1, h2⟩ := e3
      rw [Nat.sub_zero] at h1
      rw [h1]; exact h2
theorem plTs_sub : ∀ {i : Nat} {ts : List T} {p : List Nat × T}, p ∈ plTs i ts → ∃ k r, p.1 = k :: r ∧ i ≤ k ∧ ∃ u, ts[k - i]? = some u ∧ subT u r = some p.2
  | i, [], p, h => nomatch h
  | i, t :: ts, p, h => by
    rw [plTs] at h
    rcases List.mem_append.mp h with h | h
    · obtain ⟨q, hq, rfl⟩ := List.mem_map.mp h
      exact ⟨i, q.1, rfl, Nat.le_refl _, t, by simp, plT_sub hq⟩
    · obtain ⟨k, r, e1, e2, u, e3, e4⟩ := plTs_sub h
      refine ⟨k, r, e1, by omega, u, ?_, e4⟩
      rw [show k - i = (k - (i + 1)) + 1 by omega, List.getElem?_cons_succ]
      exact e3
end
/-! parts of patterns -/
mutual
def wiP : Pt → List Pt
  | .any => [.any]
  | .leaf => [.leaf]
  | .node c ks => .node c ks :: wiPs ks
def wiPs : List Pt → List Pt
  | [] => []
  | p :: ps => wiP p ++ wiPs ps
end
mutual
theorem wiP_len : ∀ p : Pt, (wiP p).length = szP p
  | .any => rfl
  | .leaf => rfl
  | .node c ks => by rw [wiP, szP, List.length_cons, wiPs_len ks]; omega
theorem wiPs_len : ∀ ps : List Pt, (wiPs ps).length = szPs ps
  | [] => rfl
  | p :: ps => by rw [wiPs, szPs, List.length_append, wiP_len p, wiPs_len ps]
end
mutual
theorem wiP_ok : ∀ {p q : Pt}, okP p → q ∈ wiP p → okP q ∧ htP q ≤ htP p
  | .any, q, _, h => by rw [wiP] at h; rw [List.mem_singleton.mp h]; exact ⟨trivial, Nat.le_refl _⟩
  | .leaf, q, _, h => by rw [wiP] at h; rw [List.mem_singleton.mp h]; exact ⟨trivial, Nat.le_refl _⟩
  | .node c ks, q, o, h => by
    rw [wiP] at h
    rcases List.mem_cons.mp h with rfl | h
    · exact ⟨o, Nat.le_refl _⟩
    · rw [okP] at o
      have := wiPs_ok o.2.2 h
      rw [htP]; exact ⟨this.1, by omega⟩
theorem wiPs_ok : ∀ {ps : List Pt} {q : Pt}, okPs ps → q ∈ wiPs ps → okP q ∧ htP q ≤ htPs ps
  | [], q, _, h => nomatch h
  | p :: ps, q, o, h => by
    rw [wiPs] at h
    rw [okPs] at o
    rw [htPs]
    rcases List.mem_append.mp h with h | h
    · have := wiP_ok o.1 h; exact ⟨this.1, by omega⟩
    · have := wiPs_ok o.2 h; exact ⟨this.1, by omega⟩
end
theorem wiPs_flat : ∀ ps : List Pt, wiPs ps = ps.flatMap wiP
  | [] => rfl
  | p :: ps => by rw [wiPs, List.flatMap_cons, wiPs_flat ps]
theorem wiP_self (p : Pt) : p ∈ wiP p := by cases p <;> rw [wiP] <;> simp
mutual
theorem wiP_kid : ∀ {p : Pt} {c : Nat} {ks : List Pt} {k : Pt}, .node c ks ∈ wiP p → k ∈ ks → k ∈ wiP p
  | .any, c, ks, k, h, _ => by rw [wiP] at h; simp at h
  | .leaf, c, ks, k, h, _ => by rw [wiP] at h; simp at h
  | .node d js, c, ks, k, h, hk => by
    rw [wiP] at h ⊢
    rcases List.mem_cons.mp h with h | h
    · cases h
      refine List.mem_cons_of_mem _ ?_
      rw [wiPs_flat]
      exact List.mem_flatMap.mpr ⟨k, hk, wiP_self k⟩
    · exact List.mem_cons_of_mem _ (wiPs_kid h hk)
theorem wiPs_kid : ∀ {ps : List Pt} {c : Nat} {ks : List Pt} {k : Pt}, .node c ks ∈ wiPs ps → k ∈ ks → k ∈ wiPs ps
  | [], c, ks, k, h, _ => nomatch h
  | p :: ps, c, ks, k, h, hk => by
    rw [wiPs] at h ⊢
    rcases List.mem_append.mp h with h | h
    · exact List.mem_append.mpr (.inl (wiP_kid h hk))
    · exact List.mem_append.mpr (.inr (wiPs_kid h hk))
end
mutual
theorem dP_inj : ∀ {p q : Pt}, dP p = dP q → p = q
  | .any, q, h => by cases q <;> simp [dP] at h <;> rfl
  | .leaf, q, h => by cases q <;> simp [dP] at h <;> rfl
  | .node c ks, q, h => by
    cases q with
    | any => simp [dP] at h
    | leaf => simp [dP] at h
    | node d js =>
      simp [dP] at h
      rw [h.1, dPs_inj h.2]
theorem dPs_inj : ∀ {p q : List Pt}, dPs p = dPs q → p = q
  | [], [], _ => rfl
  | [], _ :: _, h => by simp [dPs] at h
  | _ :: _, [], h => by simp [dPs] at h
  | p :: ps, q :: qs, h => by
    rw [dPs, dPs] at h
    injection h with h1 h2
    rw [dP_inj h1, dPs_inj h2]
end
theorem szPs_app : ∀ a b : List Pt, szPs (a ++ b) = szPs a + szPs b
  | [], b => by simp [szPs]
  | x :: xs, b => by rw [List.cons_append, szPs, szPs, szPs_app xs b]; omega
instance : DecidableEq Pt := fun a b => if h : dP a = dP b then isTrue (dP_inj h) else isFalse fun e => h (by rw [e])
/-- each once, as they are met -/
def ddP (acc : List Pt) : List Pt → List Pt
  | [] => acc
  | p :: r => if dP p ∈ acc.map dP then ddP acc r else ddP (acc ++ [p]) r
theorem memdP {p : Pt} {l : List Pt} : dP p ∈ l.map dP ↔ p ∈ l := by
  constructor
  · intro h
    obtain ⟨q, hq, e⟩ := List.mem_map.mp h
    rw [← dP_inj e]; exact hq
  · exact fun h => List.mem_map.mpr ⟨p, h, rfl⟩
theorem ddP_mem : ∀ {l acc : List Pt} {p : Pt}, p ∈ ddP acc l ↔ p ∈ acc ∨ p ∈ l
  | [], acc, p => by simp [ddP]
  | q :: l, acc, p => by
    rw [ddP]
    split
    · rename_i h
      rw [memdP] at h
      rw [ddP_mem]
      constructor
      · rintro (h | h)
        · exact .inl h
        · exact .inr (List.mem_cons_of_mem _ h)
      · rintro (h1 | h1)
        · exact .inl h1
        · rcases List.mem_cons.mp h1 with rfl | h1
          · exact .inl h
          · exact .inr h1
    · rw [ddP_mem]
      rw [List.mem_append, List.mem_singleton, List.mem_cons]
      exact or_assoc
theorem ddP_app : ∀ {l m acc : List Pt}, ddP acc (l ++ m) = ddP (ddP acc l) m
  | [], m, acc => rfl
  | q :: l, m, acc => by
    rw [List.cons_append, ddP, ddP]
    split <;> exact ddP_app
theorem ddP_len : ∀ {l acc : List Pt}, (ddP acc l).length ≤ acc.length + l.length
  | [], acc => by simp [ddP]
  | q :: l, acc => by
    rw [ddP]
    split
    · have := ddP_len (l := l) (acc := acc); rw [List.length_cons]; omega
    · have := ddP_len (l := l) (acc := acc ++ [q]); simp only [List.length_cons, List.length_append, List.length_nil] at this ⊢; omega
/-- the parts of a book -/
def partsB (rs : List Ru) : List Pt := ddP [] (rs.flatMap fun r => wiP r.p)
theorem flatMap_le {α β : Type} (f : α → List β) (m : Nat) : ∀ (l : List α), (∀ a ∈ l, (f a).length ≤ m) → (l.flatMap f).length ≤ l.length * m
  | [], _ => by simp
  | a :: l, h => by
    rw [List.flatMap_cons, List.length_append, List.length_cons, Nat.succ_mul]
    have h1 := h a List.mem_cons_self
    have h2 := flatMap_le f m l fun b hb => h b (List.mem_cons_of_mem _ hb)
    omega
theorem partsB_len {rs : List Ru} (h : okBk rs) : (partsB rs).length ≤ 112 := by
  have h1 := ddP_len (l := rs.flatMap fun r => wiP r.p) (acc := [])
  have h2 := flatMap_le (fun r : Ru => wiP r.p) 7 rs fun r hr => by rw [wiP_len]; exact (h.ok r hr).pz
  have := h.few
  unfold partsB
  simp only [List.length_nil] at h1
  omega
theorem partsB_ok {rs : List Ru} (h : okBk rs) {p : Pt} (hp : p ∈ partsB rs) : okP p ∧ htP p ≤ 3 := by
  unfold partsB at hp
  rw [ddP_mem] at hp
  rcases hp with hp | hp
  · cases hp
  · obtain ⟨r, hr, hq⟩ := List.mem_flatMap.mp hp
    have o := h.ok r hr
    have := wiP_ok o.p hq
    exact ⟨this.1, by have := o.ph; omega⟩
theorem partsB_kid {rs : List Ru} {c : Nat} {ks : List Pt} {k : Pt} (hp : .node c ks ∈ partsB rs) (hk : k ∈ ks) : k ∈ partsB rs := by
  unfold partsB at hp ⊢
  rw [ddP_mem] at hp ⊢
  rcases hp with hp | hp
  · cases hp
  · obtain ⟨r, hr, hq⟩ := List.mem_flatMap.mp hp
    exact .inr (List.mem_flatMap.mpr ⟨r, hr, wiP_kid hq hk⟩)
theorem partsB_rule {rs : List Ru} {r : Ru} (hr : r ∈ rs) : r.p ∈ partsB rs := by
  unfold partsB
  rw [ddP_mem]
  exact .inr (List.mem_flatMap.mpr ⟨r, hr, wiP_self r.p⟩)
/-- the numbers of the parts that fit -/
def setT (Ps : List Pt) (t : T) : List Nat := (List.range Ps.length).filter fun i => fitsP (Ps.getD i .any) t
end Z
/-! dicts -/
namespace Z
theorem dGet_nil {k : D} : dGet [] k = none := rfl
theorem dGet_cons {a b k : D} {r : List (D × D)} : dGet ((a, b) :: r) k = if a = k then some b else dGet r k := by
  unfold dGet
  rw [List.find?_cons]
  by_cases h : a = k
  · simp [h]
  · simp [h]
theorem dGet_app {k : D} {a b : List (D × D)} : dGet (a ++ b) k = (dGet a k).or (dGet b k) := by
  induction a with
  | nil => rw [List.nil_append, dGet_nil]; rfl
  | cons x a ih =>
    obtain ⟨u, v⟩ := x
    rw [List.cons_append, dGet_cons, dGet_cons]
    split
    · rfl
    · exact ih
theorem dGet_map {k v k' : D} : ∀ {kvs : List (D × D)}, dGet (kvs.map fun p => if p.1 = k then (p.1, v) else p) k' = if k' = k ∧ (dGet kvs k).isSome = true then some v else dGet kvs k'
  | [] => by rw [List.map_nil, dGet_nil, dGet_nil]; simp
  | (a, b) :: r => by
    rw [List.map_cons]
    have ih := dGet_map (k := k) (v := v) (k' := k') (kvs := r)
    by_cases h : a = k
    · subst h
      rw [if_pos rfl, dGet_cons, dGet_cons, dGet_cons, if_pos rfl]
      by_cases h2 : a = k'
      · subst h2; simp
      · have h3 : ¬ k' = a := fun z => h2 z.symm
        rw [if_neg h2, if_neg h2, ih]
        simp [h3]
    · rw [if_neg h, dGet_cons, dGet_cons, dGet_cons, if_neg h, ih]
      by_cases h2 : a = k'
      · subst h2; simp [h]
      · simp [h2]
theorem dGet_put {kvs : List (D × D)} {k v k' : D} : dGet (dPut kvs k v) k' = if k' = k then some v else dGet kvs k' := by
  unfold dPut
  by_cases h : (dGet kvs k).isSome = true
  · rw [if_pos h, dGet_map]
    by_cases h2 : k' = k <;> simp [h2, h]
  · rw [if_neg h, dGet_app]
    by_cases h2 : k' = k
    · subst h2
      have : dGet kvs k' = none := by simpa using h
      rw [this, dGet_cons]; simp
    · rw [dGet_cons, if_neg (fun z => h2 z.symm), if_neg h2, dGet_nil]; simp
theorem dPut_len {kvs : List (D × D)} {k v : D} : (dPut kvs k v).length ≤ kvs.length + 1 := by
  unfold dPut
  split <;> simp
theorem dPut_keys {kvs : List (D × D)} {k v x : D} (h : x ∈ (dPut kvs k v).map (·.2)) : x = v ∨ x ∈ kvs.map (·.2) := by
  unfold dPut at h
  split at h
  · rw [List.map_map] at h
    obtain ⟨p, hp, rfl⟩ := List.mem_map.mp h
    by_cases hk : p.1 = k
    · left; simp [hk]
    · right; simp [hk]; exact ⟨p.1, hp⟩
  · rw [List.map_append] at h
    rcases List.mem_append.mp h with h | h
    · exact .inr h
    · exact .inl (by simpa using h)
theorem dPa_inj {p q : List Nat} (h : dPa p = dPa q) : p = q := by
  unfold dPa at h
  injection h with h
  induction p generalizing q with
  | nil => cases q with
    | nil => rfl
    | cons => simp at h
  | cons a p ih => cases q with
    | nil => simp at h
    | cons b q =>
      rw [List.map_cons, List.map_cons] at h
      injection h with h1 h2
      injection h1 with h1
      rw [ih h2, Int.ofNat.inj h1]
theorem nkPa (p : List Nat) : nkDs (p.map fun (i : Nat) => D.int i) = some (p.map fun (i : Nat) => PySem.NestedKey.num i) := by
  induction p with
  | nil => rfl
  | cons a p ih => rw [List.map_cons, nkDs, ih]; rfl
theorem depPa (p : List Nat) : PySem.NestedKey.depthAll (p.map fun (i : Nat) => PySem.NestedKey.num i) ≤ 1 := by
  induction p with
  | nil => simp [PySem.NestedKey.depthAll]
  | cons a p ih => rw [List.map_cons, PySem.NestedKey.depthAll]; simp [PySem.NestedKey.depth]; omega
@[simp] theorem key_Pa (p : List Nat) : keyT (.tup (p.map fun (i : Nat) => D.int i)) = true := by
  unfold keyT
  simp only [nkD, nkPa]
  rw [PySem.NestedKey.depth]
  have := depPa p
  exact decide_eq_true (by omega)
end Z
/-! lists of plain data compared -/
namespace Z
theorem toP_lst {st : Sto} {n : Nat} {xs : List D} (h : st[n]? = some (.lst xs)) (hp : plDs xs = true) : toP st 2 (.loc n) = some (.list (pyDs xs)) := by
  unfold toP
  rw [toPW, h]
  simp only
  rw [toPWs_pl hp]
theorem eqL {st : Sto} {n m : Nat} {xs ys : List D} (h : st[n]? = some (.lst xs)) (h' : st[m]? = some (.lst ys)) (hp : plDs xs = true) (hq : plDs ys = true) (hd : depDs xs ≤ 59) : eqD st (.loc n) (.loc m) = some (decide (xs = ys)) := by
  cases ys with
  | nil =>
    unfold eqD
    simp only [h, h']
    cases xs <;> simp
  | cons y ys =>
    have e : eqD st (.loc n) (.loc m) = eqG st (.loc n) (.loc m) := by
      unfold eqD
      simp only [h, h']
    rw [e]
    unfold eqG
    rw [toP_lst h hp, toP_lst h' hq]
    simp only
    have d1 : (PySem.PyData.list (pyDs xs)).depth ≤ 60 := by
      have := deps_pl xs
      rw [PySem.PyData.depth]; omega
    rw [if_pos ⟨lays_pl hp, lays_pl hq, by have h2 := Nat.min_le_left (PySem.PyData.list (pyDs xs)).depth (PySem.PyData.list (pyDs (y :: ys))).depth; omega⟩]
    rw [PySem.PyData.eqv, eqvs_pl hp hq]
end Z
/-! ### the text as IR (printed by gen.py) -/
namespace Law
open Z
def n_text : PySem.Str := PySem.Str.mk #[116, 101, 120, 116]
def n_at : PySem.Str := PySem.Str.mk #[97, 116]
def n_kind : PySem.Str := PySem.Str.mk #[107, 105, 110, 100]
def n_place : PySem.Str := PySem.Str.mk #[112, 108, 97, 99, 101]
def n_number : PySem.Str := PySem.Str.mk #[110, 117, 109, 98, 101, 114]
def n_whole : PySem.Str := PySem.Str.mk #[119, 104, 111, 108, 101]
def n_part : PySem.Str := PySem.Str.mk #[112, 97, 114, 116]
def n_here : PySem.Str := PySem.Str.mk #[104, 101, 114, 101]
def n_take : PySem.Str := PySem.Str.mk #[116, 97, 107, 101]
def n_do : PySem.Str := PySem.Str.mk #[100, 111]
@[simp] theorem ne_n_text_n_at : (n_text = n_at) = False := by unfold n_text n_at; simp
@[simp] theorem ne_n_text_n_kind : (n_text = n_kind) = False := by unfold n_text n_kind; simp
@[simp] theorem ne_n_text_n_place : (n_text = n_place) = False := by unfold n_text n_place; simp
@[simp] theorem ne_n_text_n_number : (n_text = n_number) = False := by unfold n_text n_number; simp
@[simp] theorem ne_n_text_n_whole : (n_text = n_whole) = False := by unfold n_text n_whole; simp
@[simp] theorem ne_n_text_n_part : (n_text = n_part) = False := by unfold n_text n_part; simp
@[simp] theorem ne_n_text_n_here : (n_text = n_here) = False := by unfold n_text n_here; simp
@[simp] theorem ne_n_text_n_take : (n_text = n_take) = False := by unfold n_text n_take; simp
@[simp] theorem ne_n_text_n_do : (n_text = n_do) = False := by unfold n_text n_do; simp
@[simp] theorem ne_n_at_n_text : (n_at = n_text) = False := by unfold n_at n_text; simp
@[simp] theorem ne_n_at_n_kind : (n_at = n_kind) = False := by unfold n_at n_kind; simp
@[simp] theorem ne_n_at_n_place : (n_at = n_place) = False := by unfold n_at n_place; simp
@[simp] theorem ne_n_at_n_number : (n_at = n_number) = False := by unfold n_at n_number; simp
@[simp] theorem ne_n_at_n_whole : (n_at = n_whole) = False := by unfold n_at n_whole; simp
@[simp] theorem ne_n_at_n_part : (n_at = n_part) = False := by unfold n_at n_part; simp
@[simp] theorem ne_n_at_n_here : (n_at = n_here) = False := by unfold n_at n_here; simp
@[simp] theorem ne_n_at_n_take : (n_at = n_take) = False := by unfold n_at n_take; simp
@[simp] theorem ne_n_at_n_do : (n_at = n_do) = False := by unfold n_at n_do; simp
@[simp] theorem ne_n_kind_n_text : (n_kind = n_text) = False := by unfold n_kind n_text; simp
@[simp] theorem ne_n_kind_n_at : (n_kind = n_at) = False := by unfold n_kind n_at; simp
@[simp] theorem ne_n_kind_n_place : (n_kind = n_place) = False := by unfold n_kind n_place; simp
@[simp] theorem ne_n_kind_n_number : (n_kind = n_number) = False := by unfold n_kind n_number; simp
@[simp] theorem ne_n_kind_n_whole : (n_kind = n_whole) = False := by unfold n_kind n_whole; simp
@[simp] theorem ne_n_kind_n_part : (n_kind = n_part) = False := by unfold n_kind n_part; simp
@[simp] theorem ne_n_kind_n_here : (n_kind = n_here) = False := by unfold n_kind n_here; simp
@[simp] theorem ne_n_kind_n_take : (n_kind = n_take) = False := by unfold n_kind n_take; simp
@[simp] theorem ne_n_kind_n_do : (n_kind = n_do) = False := by unfold n_kind n_do; simp
@[simp] theorem ne_n_place_n_text : (n_place = n_text) = False := by unfold n_place n_text; simp
@[simp] theorem ne_n_place_n_at : (n_place = n_at) = False := by unfold n_place n_at; simp
@[simp] theorem ne_n_place_n_kind : (n_place = n_kind) = False := by unfold n_place n_kind; simp
@[simp] theorem ne_n_place_n_number : (n_place = n_number) = False := by unfold n_place n_number; simp
@[simp] theorem ne_n_place_n_whole : (n_place = n_whole) = False := by unfold n_place n_whole; simp
@[simp] theorem ne_n_place_n_part : (n_place = n_part) = False := by unfold n_place n_part; simp
@[simp] theorem ne_n_place_n_here : (n_place = n_here) = False := by unfold n_place n_here; simp
@[simp] theorem ne_n_place_n_take : (n_place = n_take) = False := by unfold n_place n_take; simp
@[simp] theorem ne_n_place_n_do : (n_place = n_do) = False := by unfold n_place n_do; simp
@[simp] theorem ne_n_number_n_text : (n_number = n_text) = False := by unfold n_number n_text; simp
@[simp] theorem ne_n_number_n_at : (n_number = n_at) = False := by unfold n_number n_at; simp
@[simp] theorem ne_n_number_n_kind : (n_number = n_kind) = False := by unfold n_number n_kind; simp
@[simp] theorem ne_n_number_n_place : (n_number = n_place) = False := by unfold n_number n_place; simp
@[simp] theorem ne_n_number_n_whole : (n_number = n_whole) = False := by unfold n_number n_whole; simp
@[simp] theorem ne_n_number_n_part : (n_number = n_part) = False := by unfold n_number n_part; simp
@[simp] theorem ne_n_number_n_here : (n_number = n_here) = False := by unfold n_number n_here; simp
@[simp] theorem ne_n_number_n_take : (n_number = n_take) = False := by unfold n_number n_take; simp
@[simp] theorem ne_n_number_n_do : (n_number = n_do) = False := by unfold n_number n_do; simp
@[simp] theorem ne_n_whole_n_text : (n_whole = n_text) = False := by unfold n_whole n_text; simp
@[simp] theorem ne_n_whole_n_at : (n_whole = n_at) = False := by unfold n_whole n_at; simp
@[simp] theorem ne_n_whole_n_kind : (n_whole = n_kind) = False := by unfold n_whole n_kind; simp
@[simp] theorem ne_n_whole_n_place : (n_whole = n_place) = False := by unfold n_whole n_place; simp
@[simp] theorem ne_n_whole_n_number : (n_whole = n_number) = False := by unfold n_whole n_number; simp
@[simp] theorem ne_n_whole_n_part : (n_whole = n_part) = False := by unfold n_whole n_part; simp
@[simp] theorem ne_n_whole_n_here : (n_whole = n_here) = False := by unfold n_whole n_here; simp
@[simp] theorem ne_n_whole_n_take : (n_whole = n_take) = False := by unfold n_whole n_take; simp
@[simp] theorem ne_n_whole_n_do : (n_whole = n_do) = False := by unfold n_whole n_do; simp
@[simp] theorem ne_n_part_n_text : (n_part = n_text) = False := by unfold n_part n_text; simp
@[simp] theorem ne_n_part_n_at : (n_part = n_at) = False := by unfold n_part n_at; simp
@[simp] theorem ne_n_part_n_kind : (n_part = n_kind) = False := by unfold n_part n_kind; simp
@[simp] theorem ne_n_part_n_place : (n_part = n_place) = False := by unfold n_part n_place; simp
@[simp] theorem ne_n_part_n_number : (n_part = n_number) = False := by unfold n_part n_number; simp
@[simp] theorem ne_n_part_n_whole : (n_part = n_whole) = False := by unfold n_part n_whole; simp
@[simp] theorem ne_n_part_n_here : (n_part = n_here) = False := by unfold n_part n_here; simp
@[simp] theorem ne_n_part_n_take : (n_part = n_take) = False := by unfold n_part n_take; simp
@[simp] theorem ne_n_part_n_do : (n_part = n_do) = False := by unfold n_part n_do; simp
@[simp] theorem ne_n_here_n_text : (n_here = n_text) = False := by unfold n_here n_text; simp
@[simp] theorem ne_n_here_n_at : (n_here = n_at) = False := by unfold n_here n_at; simp
@[simp] theorem ne_n_here_n_kind : (n_here = n_kind) = False := by unfold n_here n_kind; simp
@[simp] theorem ne_n_here_n_place : (n_here = n_place) = False := by unfold n_here n_place; simp
@[simp] theorem ne_n_here_n_number : (n_here = n_number) = False := by unfold n_here n_number; simp
@[simp] theorem ne_n_here_n_whole : (n_here = n_whole) = False := by unfold n_here n_whole; simp
@[simp] theorem ne_n_here_n_part : (n_here = n_part) = False := by unfold n_here n_part; simp
@[simp] theorem ne_n_here_n_take : (n_here = n_take) = False := by unfold n_here n_take; simp
@[simp] theorem ne_n_here_n_do : (n_here = n_do) = False := by unfold n_here n_do; simp
@[simp] theorem ne_n_take_n_text : (n_take = n_text) = False := by unfold n_take n_text; simp
@[simp] theorem ne_n_take_n_at : (n_take = n_at) = False := by unfold n_take n_at; simp
@[simp] theorem ne_n_take_n_kind : (n_take = n_kind) = False := by unfold n_take n_kind; simp
@[simp] theorem ne_n_take_n_place : (n_take = n_place) = False := by unfold n_take n_place; simp
@[simp] theorem ne_n_take_n_number : (n_take = n_number) = False := by unfold n_take n_number; simp
@[simp] theorem ne_n_take_n_whole : (n_take = n_whole) = False := by unfold n_take n_whole; simp
@[simp] theorem ne_n_take_n_part : (n_take = n_part) = False := by unfold n_take n_part; simp
@[simp] theorem ne_n_take_n_here : (n_take = n_here) = False := by unfold n_take n_here; simp
@[simp] theorem ne_n_take_n_do : (n_take = n_do) = False := by unfold n_take n_do; simp
@[simp] theorem ne_n_do_n_text : (n_do = n_text) = False := by unfold n_do n_text; simp
@[simp] theorem ne_n_do_n_at : (n_do = n_at) = False := by unfold n_do n_at; simp
@[simp] theorem ne_n_do_n_kind : (n_do = n_kind) = False := by unfold n_do n_kind; simp
@[simp] theorem ne_n_do_n_place : (n_do = n_place) = False := by unfold n_do n_place; simp
@[simp] theorem ne_n_do_n_number : (n_do = n_number) = False := by unfold n_do n_number; simp
@[simp] theorem ne_n_do_n_whole : (n_do = n_whole) = False := by unfold n_do n_whole; simp
@[simp] theorem ne_n_do_n_part : (n_do = n_part) = False := by unfold n_do n_part; simp
@[simp] theorem ne_n_do_n_here : (n_do = n_here) = False := by unfold n_do n_here; simp
@[simp] theorem ne_n_do_n_take : (n_do = n_take) = False := by unfold n_do n_take; simp
abbrev g_ANY : D := (.tup [(.str [97, 110, 121])])
abbrev g_DO : D := (.str [100, 111])
abbrev g_FIGURES : D := (.str [48, 49, 50, 51, 52, 53, 54, 55, 56, 57])
abbrev g_LABELS : D := (.str [97, 98, 99, 100, 101, 102])
abbrev g_LEAF : D := (.tup [(.str [108, 101, 97, 102])])
abbrev g_MOST_DEEP : D := (.int 12)
abbrev g_MOST_KIDS : D := (.int 3)
abbrev g_MOST_PLACES : D := (.int 60)
abbrev f_law : Nat := 0
abbrev f_law_begun : Nat := 1
abbrev f_law_text : Nat := 2
abbrev f_law_tree : Nat := 3
abbrev f_law_take : Nat := 4
abbrev f_law_wide : Nat := 5
abbrev f_law_spoilt : Nat := 6
abbrev f_law_alike : Nat := 7
abbrev f_law_read : Nat := 8
abbrev f_read : Nat := 9
abbrev f_law_grown : Nat := 10
abbrev f_law_part : Nat := 11
abbrev f_law_places : Nat := 12
abbrev f_need_tree : Nat := 13
abbrev f_Signs_init : Nat := 14
abbrev f_Signs_whole : Nat := 15
abbrev f_is_node : Nat := 16
abbrev f_Signs_part : Nat := 17
abbrev f_is_label : Nat := 18
abbrev f_Signs_here : Nat := 19
abbrev f_Signs_take : Nat := 20
abbrev f_Signs_do : Nat := 21
abbrev c_Signs : Nat := 0
abbrev c_BadTree : Nat := 1
abbrev c_BadText : Nat := 2
abbrev m_whole : Nat := 0
abbrev m_part : Nat := 1
abbrev m_here : Nat := 2
abbrev m_take : Nat := 3
abbrev m_do : Nat := 4
/-- law(_law_script) : 0 _law_script, 1 _law_box, 2 _law_odd, 3 _law_turn, 4 _law_text_here, 5 _law_way, 6 _law_change, 7 _law_again -/
def l_law2b : ISs := (.cons (.asg (.name 4) (.call f_law_spoilt (.cons (.var 1) (.cons (.var 4) .nil)))) .nil)
def l_law2 : IS := .for_ (.name 6) (.rng1 (.call f_law_take (.cons (.var 1) (.cons (.cst (.int 4)) .nil)))) l_law2b
def l_law3b : ISs := (.cons (.ite (.not (.call f_law_alike (.cons (.told (.call f_read (.cons (.var 4) .nil))) (.cons (.call f_law_read (.cons (.var 4) .nil)) .nil)))) (.cons (.ret (.cst (.bl false))) .nil) .nil) .nil)
def l_law3 : IS := .for_ (.name 7) (.rng1 (.cst (.int 2))) l_law3b
def l_lawb : ISs := (.cons (.asg (.name 4) (.call f_law_text (.cons (.call f_law_tree (.cons (.var 1) (.cons (.cst (.str [97, 98, 99, 100, 101, 102])) .nil))) .nil))) (.cons (.asg (.name 5) (.call f_law_take (.cons (.var 1) (.cons (.cst (.int 6)) .nil)))) (.cons (.ite (.cmp .eq (.var 5) (.cst (.int 5))) (.cons (.asg (.name 4) (.ix (.var 2) (.call f_law_take (.cons (.var 1) (.cons (.cst (.int 16)) .nil))))) .nil) .nil) (.cons (.ite (.cmp .eq (.var 5) (.cst (.int 4))) (.cons (.asg (.name 4) (.call f_law_text (.cons (.call f_law_wide (.cons (.bin .add (.cst (.int 55)) (.call f_law_take (.cons (.var 1) (.cons (.cst (.int 160)) .nil)))) .nil)) .nil))) .nil) .nil) (.cons l_law2 (.cons l_law3 .nil))))))
def l_law : IS := .for_ (.name 3) (.rng1 (.cst (.int 6))) l_lawb
def b_law : ISs := (.cons (.asg (.name 1) (.call f_law_begun (.cons (.var 0) .nil))) (.cons (.asg (.name 2) (.lst (.cons (.cst (.str [])) (.cons (.cst (.str [32])) (.cons (.cst (.str [97, 40, 41])) (.cons (.cst (.str [97, 40, 98])) (.cons (.cst (.str [97, 40, 98, 44])) (.cons (.cst (.str [97, 40, 98, 44, 41])) (.cons (.cst (.str [40, 97, 41])) (.cons (.cst (.str [97, 98])) (.cons (.cst (.str [97, 40, 98, 41, 99])) (.cons (.cst (.str [97, 40, 98, 41, 41])) (.cons (.cst (.str [97, 32, 98])) .nil))))))))))))) (.cons (.asg (.name 2) (.bin .add (.var 2) (.lst (.cons (.cst (.str [97, 40, 98, 44, 99, 44, 100, 44, 101, 41])) (.cons (.cst (.str [97, 40, 98, 44, 99, 44, 100, 44, 101, 40, 97, 41, 41])) .nil))))) (.cons (.asg (.name 2) (.bin .add (.var 2) (.lst (.cons (.bin .add (.bin .add (.bin .mul (.cst (.str [97, 40])) (.cst (.int 12))) (.cst (.str [98]))) (.bin .mul (.cst (.str [41])) (.cst (.int 12)))) (.cons (.bin .add (.bin .add (.bin .mul (.cst (.str [97, 40])) (.cst (.int 11))) (.cst (.str [98]))) (.bin .mul (.cst (.str [41])) (.cst (.int 11)))) (.cons (.cst (.str [97, 40, 44, 98, 41])) .nil)))))) (.cons l_law (.cons (.ret (.cst (.bl true))) .nil))))))
/-- _law_begun(_law_script) : 0 _law_script, 1 _law_stirred, 2 _law_cell -/
def l_law_begunb : ISs := (.cons (.asg (.name 1) (.bin .mod (.bin .add (.bin .add (.bin .mul (.var 1) (.cst (.int 48271))) (.bin .mul (.var 2) (.cst (.int 69621)))) (.cst (.int 11))) (.cst (.int 2147483647)))) .nil)
def l_law_begun : IS := .for_ (.name 2) (.it (.var 0)) l_law_begunb
def b_law_begun : ISs := (.cons (.asg (.name 1) (.cst (.int 0))) (.cons l_law_begun (.cons (.ret (.lst (.cons (.bi .list (.var 0)) (.cons (.bin .mul (.var 1) (.bi .int (.cmp .gt (.bi .len (.var 0)) (.cst (.int 2))))) .nil)))) .nil)))
/-- _law_text(_law_tree_here) : 0 _law_tree_here, 1 _law_kid -/
def c_law_texte : IE := (.call f_law_text (.cons (.var 1) .nil))
def c_law_text : IE := .comp c_law_texte (.name 1) [1] (.it (.ix (.var 0) (.cst (.int 1)))) .none
def b_law_text : ISs := (.cons (.ite (.cmp .eq (.ix (.var 0) (.cst (.int 1))) (.tup .nil)) (.cons (.ret (.ix (.var 0) (.cst (.int 0)))) .nil) .nil) (.cons (.ret (.bin .add (.bin .add (.bin .add (.ix (.var 0) (.cst (.int 0))) (.cst (.str [40]))) (.me1 .join (.cst (.str [44])) c_law_text)) (.cst (.str [41])))) .nil))
/-- _law_tree(_law_box, _law_letters_here) : 0 _law_box, 1 _law_letters_here, 2 _law_most -/
def b_law_tree : ISs := (.cons (.asg (.name 2) (.ix (.lst (.cons (.cst (.int 1)) (.cons (.cst (.int 6)) (.cons (.cst (.int 14)) (.cons (.cst (.int 60)) .nil))))) (.call f_law_take (.cons (.var 0) (.cons (.cst (.int 4)) .nil))))) (.cons (.ret (.call f_law_grown (.cons (.var 0) (.cons (.var 1) (.cons (.lst (.cons (.var 2) .nil)) (.cons (.ix (.lst (.cons (.cst (.int 4)) (.cons (.cst (.int 12)) .nil))) (.call f_law_take (.cons (.var 0) (.cons (.cst (.int 2)) .nil)))) .nil)))))) .nil))
/-- _law_take(_law_box, _law_many) : 0 _law_box, 1 _law_many, 2 _law_number -/
def b_law_take : ISs := (.cons (.ite (.cmp .eq (.ix (.var 0) (.cst (.int 0))) (.lst .nil)) (.cons (.seti (.var 0) (.cst (.int 1)) (.bin .mod (.bin .mul (.ix (.var 0) (.cst (.int 1))) (.cst (.int 48271))) (.cst (.int 2147483647)))) (.cons (.ret (.bin .mod (.bin .fdiv (.ix (.var 0) (.cst (.int 1))) (.cst (.int 7))) (.var 1))) .nil)) .nil) (.cons (.asg (.name 2) (.ix (.ix (.var 0) (.cst (.int 0))) (.cst (.int 0)))) (.cons (.seti (.ix (.var 0) (.cst (.int 0))) (.cst (.int 0)) (.bin .fdiv (.var 2) (.var 1))) (.cons (.ite (.or (.cmp .eq (.ix (.ix (.var 0) (.cst (.int 0))) (.cst (.int 0))) (.cst (.int 0))) (.cmp .eq (.ix (.ix (.var 0) (.cst (.int 0))) (.cst (.int 0))) (.cst (.int (-1))))) (.cons (.expr (.me1 .pop (.ix (.var 0) (.cst (.int 0))) (.cst (.int 0)))) .nil) .nil) (.cons (.ret (.bin .mod (.var 2) (.var 1))) .nil)))))
/-- _law_wide(_law_many) : 0 _law_many, 1 _law_kids, 2 _law_sizes, 3 _law_k, 4 _law_size -/
def c_law_widee : IE := (.bin .add (.bin .fdiv (.bin .sub (.var 0) (.cst (.int 1))) (.var 1)) (.bi .int (.cmp .lt (.var 3) (.bin .mod (.bin .sub (.var 0) (.cst (.int 1))) (.var 1)))))
def c_law_wide : IE := .comp c_law_widee (.name 3) [3] (.rng1 (.var 1)) .none
def c_law_wide2e : IE := (.call f_law_wide (.cons (.var 4) .nil))
def c_law_wide2 : IE := .comp c_law_wide2e (.name 4) [4] (.it (.var 2)) .none
def b_law_wide : ISs := (.cons (.ite (.cmp .lt (.var 0) (.cst (.int 2))) (.cons (.ret (.tup (.cons (.cst (.str [99])) (.cons (.tup .nil) .nil)))) .nil) .nil) (.cons (.asg (.name 1) (.mn2 false (.cst (.int 3)) (.bin .sub (.var 0) (.cst (.int 1))))) (.cons (.asg (.name 2) c_law_wide) (.cons (.ret (.tup (.cons (.cst (.str [99])) (.cons (.bi .tuple c_law_wide2) .nil)))) .nil))))
/-- _law_spoilt(_law_box, _law_text_here) : 0 _law_box, 1 _law_text_here, 2 _law_deed, 3 _law_place, 4 _law_signs, 5 _law_sign, 6 _law_end, 7 _law_two -/
def b_law_spoilt : ISs := (.cons (.asg (.name 2) (.call f_law_take (.cons (.var 0) (.cons (.cst (.int 5)) .nil)))) (.cons (.asg (.name 3) (.call f_law_take (.cons (.var 0) (.cons (.bin .add (.bi .len (.var 1)) (.cst (.int 1))) .nil)))) (.cons (.asg (.name 4) (.cst (.str [97, 98, 99, 100, 101, 102, 40, 41, 44, 103, 65, 32, 63, 46, 48, 45, 10, 40, 41, 104, 105, 106, 107, 108, 109, 110, 111, 112, 113, 114, 115, 116, 117, 118, 119, 120, 121, 122, 49, 50, 51, 52, 53, 54, 55, 56, 57, 33, 35, 36, 38, 39, 42, 43, 47, 58, 59, 60, 61, 62, 64, 66, 67, 68, 69, 70, 71, 72, 73, 74, 75, 76, 77, 78, 79, 80, 81, 82, 83, 84, 85, 86, 87, 88, 89, 90, 91, 93, 94, 95, 96, 123, 124, 125, 126]))) (.cons (.asg (.name 5) (.ix (.var 4) (.call f_law_take (.cons (.var 0) (.cons (.ix (.lst (.cons (.cst (.int 19)) (.cons (.bi .len (.var 4)) .nil))) (.call f_law_take (.cons (.var 0) (.cons (.cst (.int 2)) .nil)))) .nil))))) (.cons (.ite (.cmp .eq (.var 2) (.cst (.int 1))) (.cons (.asg (.name 5) (.cst (.str []))) .nil) .nil) (.cons (.ite (.cmp .lt (.var 2) (.cst (.int 3))) (.cons (.ret (.bin .add (.bin .add (.sl (.var 1) .none (.some (.var 3))) (.var 5)) (.sl (.var 1) (.some (.bin .add (.var 3) (.bi .int (.cmp .gt (.var 2) (.cst (.int 0)))))) .none))) .nil) .nil) (.cons (.asg (.name 6) (.bin .add (.var 3) (.call f_law_take (.cons (.var 0) (.cons (.cst (.int 9)) .nil))))) (.cons (.ite (.cmp .eq (.var 2) (.cst (.int 3))) (.cons (.ret (.sl (.bin .add (.sl (.var 1) .none (.some (.var 6))) (.sl (.var 1) (.some (.var 3)) .none)) .none (.some (.cst (.int 600))))) .nil) .nil) (.cons (.asg (.name 7) (.rev (.sl (.var 1) (.some (.var 3)) (.some (.bin .add (.var 3) (.cst (.int 2))))))) (.cons (.ret (.bin .add (.bin .add (.sl (.var 1) .none (.some (.var 3))) (.var 7)) (.sl (.var 1) (.some (.bin .add (.var 3) (.cst (.int 2)))) .none))) .nil))))))))))
/-- _law_alike(_law_found, _law_due) : 0 _law_found, 1 _law_due, 2 _law_k -/
def l_law_alikeb : ISs := (.cons (.ite (.not (.call f_law_alike (.cons (.ix (.var 0) (.var 2)) (.cons (.ix (.var 1) (.var 2)) .nil)))) (.cons (.ret (.cst (.bl false))) .nil) .nil) .nil)
def l_law_alike : IS := .for_ (.name 2) (.rng1 (.bi .len (.var 1))) l_law_alikeb
def b_law_alike : ISs := (.cons (.ite (.cmp .isN (.var 1) (.cst .non)) (.cons (.ret (.cmp .isN (.var 0) (.cst .non))) .nil) .nil) (.cons (.ite (.isi (.var 1) .bool) (.cons (.ret (.and (.isi (.var 0) .bool) (.cmp .eq (.var 0) (.var 1)))) .nil) .nil) (.cons (.ite (.isi (.var 1) .int) (.cons (.ret (.and (.isi (.var 0) .int) (.and (.not (.isi (.var 0) .bool)) (.cmp .eq (.var 0) (.var 1))))) .nil) .nil) (.cons (.ite (.isi (.var 1) .str) (.cons (.ret (.and (.isi (.var 0) .str) (.cmp .eq (.var 0) (.var 1)))) .nil) .nil) (.cons (.ite (.or (.cmp .ne (.isi (.var 1) .tup) (.isi (.var 0) .tup)) (.cmp .ne (.isi (.var 1) .lst) (.isi (.var 0) .lst))) (.cons (.ret (.cst (.bl false))) .nil) .nil) (.cons (.ite (.cmp .ne (.bi .len (.var 0)) (.bi .len (.var 1))) (.cons (.ret (.cst (.bl false))) .nil) .nil) (.cons l_law_alike (.cons (.ret (.cst (.bl true))) .nil))))))))
/-- _law_read(_law_text_here) : 0 _law_text_here, 1 _law_some, 2 _law_k, 3 _law_tree_here, 4 _law_here -/
def l_law_readb : ISs := (.cons (.ite (.or (.cmp .gt (.var 2) (.cst (.int 59))) (.or (.cmp .gt (.bi .len (.ix (.ix (.var 1) (.var 2)) (.cst (.int 0)))) (.cst (.int 11))) (.cmp .gt (.bi .len (.ix (.ix (.ix (.var 1) (.var 2)) (.cst (.int 1))) (.cst (.int 1)))) (.cst (.int 3))))) (.cons (.ret (.tup (.cons (.cst (.str [66, 97, 100, 84, 114, 101, 101])) (.cons (.ix (.ix (.var 1) (.var 2)) (.cst (.int 0))) .nil)))) .nil) .nil) .nil)
def l_law_read : IS := .for_ (.name 2) (.rng1 (.bi .len (.var 1))) l_law_readb
def b_law_read : ISs := (.cons (.asg (.tup [3, 4]) (.call f_law_part (.cons (.var 0) (.cons (.cst (.int 0)) .nil)))) (.cons (.ite (.or (.cmp .isN (.var 3) (.cst .non)) (.cmp .lt (.var 4) (.bi .len (.var 0)))) (.cons (.ret (.tup (.cons (.cst (.str [66, 97, 100, 84, 101, 120, 116])) (.cons (.mn2 false (.var 4) (.bi .len (.var 0))) .nil)))) .nil) .nil) (.cons (.asg (.name 1) (.call f_law_places (.cons (.var 3) .nil))) (.cons l_law_read (.cons (.ret (.var 3)) .nil)))))
/-- read(text) : 0 text, 1 tree -/
def b_read : ISs := (.cons (.asg (.name 1) (.om n_whole m_whole (.mk c_Signs (.cons (.var 0) (.cons (.cst (.str [116, 114, 101, 101])) .nil))) .nil)) (.cons (.expr (.call f_need_tree (.cons (.var 1) .nil))) (.cons (.ret (.var 1)) .nil)))
/-- _law_grown(_law_box, _law_letters_here, _law_left, _law_deep) : 0 _law_box, 1 _law_letters_here, 2 _law_left, 3 _law_deep, 4 _law_kids, 5 _law_k -/
def l_law_grownb : ISs := (.cons (.ite (.and (.cmp .gt (.var 3) (.cst (.int 1))) (.cmp .gt (.ix (.var 2) (.cst (.int 0))) (.cst (.int 0)))) (.cons (.expr (.me1 .append (.var 4) (.call f_law_grown (.cons (.var 0) (.cons (.var 1) (.cons (.var 2) (.cons (.bin .sub (.var 3) (.cst (.int 1))) .nil))))))) .nil) .nil) .nil)
def l_law_grown : IS := .for_ (.name 5) (.rng1 (.call f_law_take (.cons (.var 0) (.cons (.cst (.int 4)) .nil)))) l_law_grownb
def b_law_grown : ISs := (.cons (.seti (.var 2) (.cst (.int 0)) (.bin .sub (.ix (.var 2) (.cst (.int 0))) (.cst (.int 1)))) (.cons (.asg (.name 4) (.lst .nil)) (.cons l_law_grown (.cons (.ret (.tup (.cons (.ix (.var 1) (.call f_law_take (.cons (.var 0) (.cons (.bi .len (.var 1)) .nil)))) (.cons (.bi .tuple (.var 4)) .nil)))) .nil))))
/-- _law_part(_law_text_here, _law_at) : 0 _law_text_here, 1 _law_at, 2 _law_here, 3 _law_kids, 4 _law_sign, 5 _law_kid -/
def l_law_partb : ISs := (.cons (.asg (.tup [5, 2]) (.call f_law_part (.cons (.var 0) (.cons (.bin .add (.var 2) (.cst (.int 1))) .nil)))) (.cons (.ite (.cmp .isN (.var 5) (.cst .non)) (.cons (.ret (.tup (.cons (.cst .non) (.cons (.var 2) .nil)))) .nil) .nil) (.cons (.expr (.me1 .append (.var 3) (.var 5))) (.cons (.ite (.or (.cmp .ge (.var 2) (.bi .len (.var 0))) (.cmp .nmem (.ix (.var 0) (.var 2)) (.cst (.str [44, 41])))) (.cons (.ret (.tup (.cons (.cst .non) (.cons (.var 2) .nil)))) .nil) .nil) (.cons (.asg (.name 4) (.ix (.var 0) (.var 2))) .nil)))))
def l_law_part : IS := .whl (.cmp .eq (.var 4) (.cst (.str [44]))) l_law_partb
def b_law_part : ISs := (.cons (.ite (.or (.cmp .ge (.var 1) (.bi .len (.var 0))) (.cmp .nmem (.ix (.var 0) (.var 1)) (.cst (.str [97, 98, 99, 100, 101, 102])))) (.cons (.ret (.tup (.cons (.cst .non) (.cons (.var 1) .nil)))) .nil) .nil) (.cons (.asg (.name 2) (.bin .add (.var 1) (.cst (.int 1)))) (.cons (.asg (.name 3) (.lst .nil)) (.cons (.ite (.and (.cmp .lt (.var 2) (.bi .len (.var 0))) (.cmp .eq (.ix (.var 0) (.var 2)) (.cst (.str [40])))) (.cons (.asg (.name 4) (.cst (.str [44]))) (.cons l_law_part (.cons (.asg (.name 2) (.bin .add (.var 2) (.cst (.int 1)))) .nil))) .nil) (.cons (.ret (.tup (.cons (.tup (.cons (.ix (.var 0) (.var 1)) (.cons (.bi .tuple (.var 3)) .nil))) (.cons (.var 2) .nil)))) .nil)))))
/-- _law_places(_law_tree_here) : 0 _law_tree_here, 1 _law_found, 2 _law_k, 3 _law_place, 4 _law_part_here -/
def c_law_placese : IE := (.tup (.cons (.bin .add (.tup (.cons (.var 2) .nil)) (.var 3)) (.cons (.var 4) .nil)))
def c_law_places : IE := .comp c_law_placese (.tup [3, 4]) [3, 4] (.it (.call f_law_places (.cons (.ix (.ix (.var 0) (.cst (.int 1))) (.var 2)) .nil))) .none
def l_law_placesb : ISs := (.cons (.expr (.me1 .extend (.var 1) c_law_places)) .nil)
def l_law_places : IS := .for_ (.name 2) (.rng1 (.bi .len (.ix (.var 0) (.cst (.int 1))))) l_law_placesb
def b_law_places : ISs := (.cons (.asg (.name 1) (.lst (.cons (.tup (.cons (.tup .nil) (.cons (.var 0) .nil))) .nil))) (.cons l_law_places (.cons (.ret (.var 1)) .nil)))
/-- need_tree(tree) : 0 tree, 1 left, 2 many, 3 kids, 4 place, 5 part, 6 k -/
def c_need_treee : IE := (.tup (.cons (.bin .add (.var 4) (.tup (.cons (.var 6) .nil))) (.cons (.ix (.ix (.var 5) (.cst (.int 1))) (.var 6)) .nil)))
def c_need_tree : IE := .comp c_need_treee (.name 6) [6] (.rng1 (.bi .len (.ix (.var 5) (.cst (.int 1))))) .none
def l_need_treeb : ISs := (.cons (.asg (.tup [4, 5]) (.me0 .pop (.var 1))) (.cons (.asg (.name 2) (.bin .add (.var 2) (.cst (.int 1)))) (.cons (.ite (.or (.cmp .gt (.var 2) (.gl g_MOST_PLACES)) (.or (.cmp .ge (.bi .len (.var 4)) (.gl g_MOST_DEEP)) (.not (.call f_is_node (.cons (.var 5) .nil))))) (.cons (.rais1 c_BadTree n_place (.var 4)) .nil) .nil) (.cons (.asg (.name 3) c_need_tree) (.cons (.expr (.me1 .extend (.var 1) (.rev (.var 3)))) .nil)))))
def l_need_tree : IS := .whl (.cmp .ne (.var 1) (.lst .nil)) l_need_treeb
def b_need_tree : ISs := (.cons (.asg (.name 1) (.lst (.cons (.tup (.cons (.tup .nil) (.cons (.var 0) .nil))) .nil))) (.cons (.asg (.name 2) (.cst (.int 0))) (.cons l_need_tree .nil)))
/-- Signs.__init__(self, text, kind) : 0 self, 1 text, 2 kind -/
def b_Signs_init : ISs := (.cons (.setf (.var 0) n_text (.var 1)) (.cons (.setf (.var 0) n_at (.cst (.int 0))) (.cons (.setf (.var 0) n_kind (.var 2)) .nil)))
/-- Signs.whole(self) : 0 self, 1 found -/
def b_Signs_whole : ISs := (.cons (.asg (.name 1) (.om n_part m_part (.var 0) .nil)) (.cons (.ite (.cmp .lt (.fld (.var 0) n_at) (.bi .len (.fld (.var 0) n_text))) (.cons (.rais1 c_BadText n_number (.fld (.var 0) n_at)) .nil) .nil) (.cons (.ret (.var 1)) .nil)))
/-- is_node(tree) : 0 tree -/
def b_is_node : ISs := (.cons (.ite (.or (.not (.isi (.var 0) .tup)) (.or (.cmp .ne (.bi .len (.var 0)) (.cst (.int 2))) (.not (.call f_is_label (.cons (.ix (.var 0) (.cst (.int 0))) .nil))))) (.cons (.ret (.cst (.bl false))) .nil) .nil) (.cons (.ret (.and (.isi (.ix (.var 0) (.cst (.int 1))) .tup) (.cmp .le (.bi .len (.ix (.var 0) (.cst (.int 1)))) (.gl g_MOST_KIDS)))) .nil))
/-- Signs.part(self) : 0 self, 1 label, 2 kids -/
def l_Signs_partb : ISs := (.cons (.expr (.me1 .append (.var 2) (.om n_part m_part (.var 0) .nil))) .nil)
def l_Signs_part : IS := .whl (.cmp .eq (.om n_take m_take (.var 0) (.cons (.cst (.str [44, 41])) .nil)) (.cst (.str [44]))) l_Signs_partb
def b_Signs_part : ISs := (.cons (.ite (.and (.cmp .eq (.fld (.var 0) n_kind) (.cst (.str [112, 97, 116, 116, 101, 114, 110]))) (.cmp .mem (.om n_here m_here (.var 0) .nil) (.tup (.cons (.cst (.str [63])) (.cons (.cst (.str [46])) .nil))))) (.cons (.ret (.ite (.cmp .eq (.om n_take m_take (.var 0) (.cons (.cst (.str [63, 46])) .nil)) (.cst (.str [63]))) (.gl g_ANY) (.gl g_LEAF))) .nil) .nil) (.cons (.ite (.and (.cmp .eq (.fld (.var 0) n_kind) (.cst (.str [98, 117, 105, 108, 100]))) (.and (.cmp .ne (.om n_here m_here (.var 0) .nil) (.cst (.str []))) (.cmp .mem (.om n_here m_here (.var 0) .nil) (.gl g_FIGURES)))) (.cons (.ret (.om n_do m_do (.var 0) .nil)) .nil) .nil) (.cons (.asg (.name 1) (.om n_take m_take (.var 0) (.cons (.gl g_LABELS) .nil))) (.cons (.asg (.name 2) (.lst .nil)) (.cons (.ite (.cmp .eq (.om n_here m_here (.var 0) .nil) (.cst (.str [40]))) (.cons (.setf (.var 0) n_at (.bin .add (.fld (.var 0) n_at) (.cst (.int 1)))) (.cons (.expr (.me1 .append (.var 2) (.om n_part m_part (.var 0) .nil))) (.cons l_Signs_part .nil))) .nil) (.cons (.ret (.tup (.cons (.var 1) (.cons (.bi .tuple (.var 2)) .nil)))) .nil))))))
/-- is_label(part) : 0 part -/
def b_is_label : ISs := (.cons (.ret (.and (.isi (.var 0) .str) (.and (.cmp .eq (.bi .len (.var 0)) (.cst (.int 1))) (.cmp .mem (.var 0) (.gl g_LABELS))))) .nil)
/-- Signs.here(self) : 0 self -/
def b_Signs_here : ISs := (.cons (.ret (.sl (.fld (.var 0) n_text) (.some (.fld (.var 0) n_at)) (.some (.bin .add (.fld (.var 0) n_at) (.cst (.int 1)))))) .nil)
/-- Signs.take(self, signs) : 0 self, 1 signs, 2 sign -/
def b_Signs_take : ISs := (.cons (.asg (.name 2) (.om n_here m_here (.var 0) .nil)) (.cons (.ite (.or (.cmp .eq (.var 2) (.cst (.str []))) (.cmp .nmem (.var 2) (.var 1))) (.cons (.rais1 c_BadText n_number (.fld (.var 0) n_at)) .nil) .nil) (.cons (.setf (.var 0) n_at (.bin .add (.fld (.var 0) n_at) (.cst (.int 1)))) (.cons (.ret (.var 2)) .nil))))
/-- Signs.do(self) : 0 self, 1 state, 2 path -/
def b_Signs_do : ISs := (.cons (.asg (.name 1) (.bi .int (.om n_take m_take (.var 0) (.cons (.gl g_FIGURES) .nil)))) (.cons (.expr (.om n_take m_take (.var 0) (.cons (.cst (.str [58])) .nil))) (.cons (.asg (.name 2) (.lst (.cons (.bi .int (.om n_take m_take (.var 0) (.cons (.gl g_FIGURES) .nil))) .nil))) (.cons (.ite (.cmp .eq (.om n_here m_here (.var 0) .nil) (.cst (.str [46]))) (.cons (.setf (.var 0) n_at (.bin .add (.fld (.var 0) n_at) (.cst (.int 1)))) (.cons (.expr (.me1 .append (.var 2) (.bi .int (.om n_take m_take (.var 0) (.cons (.gl g_FIGURES) .nil))))) .nil)) .nil) (.cons (.ret (.tup (.cons (.gl g_DO) (.cons (.var 1) (.cons (.bi .tuple (.var 2)) .nil))))) .nil)))))
def fns : List FnIR := [⟨1, 8, b_law⟩,
  ⟨1, 3, b_law_begun⟩,
  ⟨1, 2, b_law_text⟩,
  ⟨2, 3, b_law_tree⟩,
  ⟨2, 3, b_law_take⟩,
  ⟨1, 5, b_law_wide⟩,
  ⟨2, 8, b_law_spoilt⟩,
  ⟨2, 3, b_law_alike⟩,
  ⟨1, 5, b_law_read⟩,
  ⟨1, 2, b_read⟩,
  ⟨4, 6, b_law_grown⟩,
  ⟨2, 6, b_law_part⟩,
  ⟨1, 5, b_law_places⟩,
  ⟨1, 7, b_need_tree⟩,
  ⟨3, 3, b_Signs_init⟩,
  ⟨1, 2, b_Signs_whole⟩,
  ⟨1, 1, b_is_node⟩,
  ⟨1, 3, b_Signs_part⟩,
  ⟨1, 1, b_is_label⟩,
  ⟨1, 1, b_Signs_here⟩,
  ⟨2, 3, b_Signs_take⟩,
  ⟨1, 3, b_Signs_do⟩]
def ini : Nat → Option Nat := fun c => match c with | 0 => some f_Signs_init | _ => none
def meth : Nat → Nat → Option Nat := fun c m => match c, m with | 0, 0 => some f_Signs_whole | 0, 1 => some f_Signs_part | 0, 2 => some f_Signs_here | 0, 3 => some f_Signs_take | 0, 4 => some f_Signs_do | _, _ => none
def tw : Nat → Option (Tx × Option PySem.Str) := fun c => match c with | 1 => some ([66, 97, 100, 84, 114, 101, 101], some n_place) | 2 => some ([66, 97, 100, 84, 101, 120, 116], some n_number) | _ => none
def pr : Prog := ⟨fns, ini, meth, tw⟩
@[simp] theorem tw_BadTree : pr.tw 1 = some ([66, 97, 100, 84, 114, 101, 101], some n_place) := (rfl)
@[simp] theorem tw_BadText : pr.tw 2 = some ([66, 97, 100, 84, 101, 120, 116], some n_number) := (rfl)
@[simp] theorem ini_Signs : pr.ini 0 = some f_Signs_init := (rfl)
@[simp] theorem mh_Signs_whole : pr.meth 0 m_whole = some f_Signs_whole := (rfl)
@[simp] theorem mh_Signs_part : pr.meth 0 m_part = some f_Signs_part := (rfl)
@[simp] theorem mh_Signs_here : pr.meth 0 m_here = some f_Signs_here := (rfl)
@[simp] theorem mh_Signs_take : pr.meth 0 m_take = some f_Signs_take := (rfl)
@[simp] theorem mh_Signs_do : pr.meth 0 m_do = some f_Signs_do := (rfl)
theorem u_law_begun (F k : Nat) (a0 : D) (st : Sto) : pr.call F (k + 1) f_law_begun [a0] st = finish st (runB (evSs (pr.cl F k) F b_law_begun [some a0, none, none] st)) := call_eq pr F k (fi := ⟨1, 3, b_law_begun⟩) rfl rfl
theorem u_law_text (F k : Nat) (a0 : D) (st : Sto) : pr.call F (k + 1) f_law_text [a0] st = finish st (runB (evSs (pr.cl F k) F b_law_text [some a0, none] st)) := call_eq pr F k (fi := ⟨1, 2, b_law_text⟩) rfl rfl
theorem u_law_tree (F k : Nat) (a0 a1 : D) (st : Sto) : pr.call F (k + 1) f_law_tree [a0, a1] st = finish st (runB (evSs (pr.cl F k) F b_law_tree [some a0, some a1, none] st)) := call_eq pr F k (fi := ⟨2, 3, b_law_tree⟩) rfl rfl
theorem u_law_take (F k : Nat) (a0 a1 : D) (st : Sto) : pr.call F (k + 1) f_law_take [a0, a1] st = finish st (runB (evSs (pr.cl F k) F b_law_take [some a0, some a1, none] st)) := call_eq pr F k (fi := ⟨2, 3, b_law_take⟩) rfl rfl
theorem u_law_wide (F k : Nat) (a0 : D) (st : Sto) : pr.call F (k + 1) f_law_wide [a0] st = finish st (runB (evSs (pr.cl F k) F b_law_wide [some a0, none, none, none, none] st)) := call_eq pr F k (fi := ⟨1, 5, b_law_wide⟩) rfl rfl
theorem u_law_spoilt (F k : Nat) (a0 a1 : D) (st : Sto) : pr.call F (k + 1) f_law_spoilt [a0, a1] st = finish st (runB (evSs (pr.cl F k) F b_law_spoilt [some a0, some a1, none, none, none, none, none, none] st)) := call_eq pr F k (fi := ⟨2, 8, b_law_spoilt⟩) rfl rfl
theorem u_law_alike (F k : Nat) (a0 a1 : D) (st : Sto) : pr.call F (k + 1) f_law_alike [a0, a1] st = finish st (runB (evSs (pr.cl F k) F b_law_alike [some a0, some a1, none] st)) := call_eq pr F k (fi := ⟨2, 3, b_law_alike⟩) rfl rfl
theorem u_law_read (F k : Nat) (a0 : D) (st : Sto) : pr.call F (k + 1) f_law_read [a0] st = finish st (runB (evSs (pr.cl F k) F b_law_read [some a0, none, none, none, none] st)) := call_eq pr F k (fi := ⟨1, 5, b_law_read⟩) rfl rfl
theorem u_read (F k : Nat) (a0 : D) (st : Sto) : pr.call F (k + 1) f_read [a0] st = finish st (runB (evSs (pr.cl F k) F b_read [some a0, none] st)) := call_eq pr F k (fi := ⟨1, 2, b_read⟩) rfl rfl
theorem u_law_grown (F k : Nat) (a0 a1 a2 a3 : D) (st : Sto) : pr.call F (k + 1) f_law_grown [a0, a1, a2, a3] st = finish st (runB (evSs (pr.cl F k) F b_law_grown [some a0, some a1, some a2, some a3, none, none] st)) := call_eq pr F k (fi := ⟨4, 6, b_law_grown⟩) rfl rfl
theorem u_law_part (F k : Nat) (a0 a1 : D) (st : Sto) : pr.call F (k + 1) f_law_part [a0, a1] st = finish st (runB (evSs (pr.cl F k) F b_law_part [some a0, some a1, none, none, none, none] st)) := call_eq pr F k (fi := ⟨2, 6, b_law_part⟩) rfl rfl
theorem u_law_places (F k : Nat) (a0 : D) (st : Sto) : pr.call F (k + 1) f_law_places [a0] st = finish st (runB (evSs (pr.cl F k) F b_law_places [some a0, none, none, none, none] st)) := call_eq pr F k (fi := ⟨1, 5, b_law_places⟩) rfl rfl
theorem u_need_tree (F k : Nat) (a0 : D) (st : Sto) : pr.call F (k + 1) f_need_tree [a0] st = finish st (runB (evSs (pr.cl F k) F b_need_tree [some a0, none, none, none, none, none, none] st)) := call_eq pr F k (fi := ⟨1, 7, b_need_tree⟩) rfl rfl
theorem u_Signs_init (F k : Nat) (a0 a1 a2 : D) (st : Sto) : pr.call F (k + 1) f_Signs_init [a0, a1, a2] st = finish st (runB (evSs (pr.cl F k) F b_Signs_init [some a0, some a1, some a2] st)) := call_eq pr F k (fi := ⟨3, 3, b_Signs_init⟩) rfl rfl
theorem u_Signs_whole (F k : Nat) (a0 : D) (st : Sto) : pr.call F (k + 1) f_Signs_whole [a0] st = finish st (runB (evSs (pr.cl F k) F b_Signs_whole [some a0, none] st)) := call_eq pr F k (fi := ⟨1, 2, b_Signs_whole⟩) rfl rfl
theorem u_is_node (F k : Nat) (a0 : D) (st : Sto) : pr.call F (k + 1) f_is_node [a0] st = finish st (runB (evSs (pr.cl F k) F b_is_node [some a0] st)) := call_eq pr F k (fi := ⟨1, 1, b_is_node⟩) rfl rfl
theorem u_Signs_part (F k : Nat) (a0 : D) (st : Sto) : pr.call F (k + 1) f_Signs_part [a0] st = finish st (runB (evSs (pr.cl F k) F b_Signs_part [some a0, none, none] st)) := call_eq pr F k (fi := ⟨1, 3, b_Signs_part⟩) rfl rfl
theorem u_is_label (F k : Nat) (a0 : D) (st : Sto) : pr.call F (k + 1) f_is_label [a0] st = finish st (runB (evSs (pr.cl F k) F b_is_label [some a0] st)) := call_eq pr F k (fi := ⟨1, 1, b_is_label⟩) rfl rfl
theorem u_Signs_here (F k : Nat) (a0 : D) (st : Sto) : pr.call F (k + 1) f_Signs_here [a0] st = finish st (runB (evSs (pr.cl F k) F b_Signs_here [some a0] st)) := call_eq pr F k (fi := ⟨1, 1, b_Signs_here⟩) rfl rfl
theorem u_Signs_take (F k : Nat) (a0 a1 : D) (st : Sto) : pr.call F (k + 1) f_Signs_take [a0, a1] st = finish st (runB (evSs (pr.cl F k) F b_Signs_take [some a0, some a1, none] st)) := call_eq pr F k (fi := ⟨2, 3, b_Signs_take⟩) rfl rfl
theorem u_Signs_do (F k : Nat) (a0 : D) (st : Sto) : pr.call F (k + 1) f_Signs_do [a0] st = finish st (runB (evSs (pr.cl F k) F b_Signs_do [some a0, none, none] st)) := call_eq pr F k (fi := ⟨1, 3, b_Signs_do⟩) rfl rfl
end Law
namespace Law
open Z
theorem take_spec (F k : Nat) (β : Bx) {m : Int} (h0 : 0 < m) (h1 : m < 1000) :
    ∃ r β', 0 ≤ r ∧ r < m ∧ ∀ rest, pr.call F (k + 1) f_law_take [.loc 0, .int m] (bx β rest) = .ok (.int r) (bx β' rest) := by
  obtain ⟨ns, s, few⟩ := β
  have h2 : m < 1073741824 := by omega
  cases ns with
  | nil =>
    refine ⟨s * 48271 % 2147483647 / 7 % m, ⟨[], s * 48271 % 2147483647, by simp⟩, Int.emod_nonneg _ (by omega), Int.emod_lt_of_pos _ h0, fun rest => ?_⟩
    rw [u_law_take]
    simp [b_law_take, h0, h2, fin_bx]
  | cons n ns =>
    have f2 : ns.length + 1 ≤ 63 := few
    by_cases c : n / m = 0 ∨ n / m = -1
    · refine ⟨n % m, ⟨ns, s, Nat.le_of_succ_le few⟩, Int.emod_nonneg _ (by omega), Int.emod_lt_of_pos _ h0, fun rest => ?_⟩
      rw [u_law_take]
      rcases c with c | c <;> simp [b_law_take, h0, h2, c, (by omega : ns.length ≤ 99999), fin_bx]
    · refine ⟨n % m, ⟨n / m :: ns, s, few⟩, Int.emod_nonneg _ (by omega), Int.emod_lt_of_pos _ h0, fun rest => ?_⟩
      rw [not_or] at c
      rw [u_law_take]
      simp [b_law_take, h0, h2, c, fin_bx]
/-- the box is made -/
theorem begun_spec (F k : Nat) {ns : List Int} (hl : ns.length ≤ 63) : ∃ β : Bx, pr.call F (k + 1) f_law_begun [.fl (ns.map D.int)] [] = .ok (.loc 0) (bx β []) := by
  obtain ⟨ρ', st', h1, rfl, s, v, rfl⟩ := for_inv (w := ⟨ns.map D.int, none⟩) (tg := .name 2) (b := evSs (pr.cl F k) F l_law_begunb) (ρ := [some (.fl (ns.map D.int)), some (.int 0), none]) (st := []) ns D.int
    (fun _ ρ st => st = [] ∧ ∃ (z : Int) (v : Option D), ρ = [some (.fl (ns.map D.int)), some (.int z), v]) rfl (fun _ _ _ _ => rfl)
    (by
      intro i a ρ s ha ⟨e1, z, v, e2⟩
      subst e1 e2
      refine ⟨_, _, _, rfl, .inl ?_, rfl, (z * 48271 + a * 69621 + 11) % 2147483647, some (.int a), rfl⟩
      simp [l_law_begunb]) ⟨rfl, 0, none, rfl⟩
  refine ⟨⟨ns, s * (if decide (2 < (ns.length : Int)) then 1 else 0), hl⟩, ?_⟩
  rw [u_law_begun]
  have h64 : (-18446744073709551616 < (if (2 : Int) < (ns.length : Int) then (1 : Int) else 0) ∧ (if (2 : Int) < (ns.length : Int) then (1 : Int) else 0) < 18446744073709551616) := by split <;> decide
  simp [b_law_begun, l_law_begun, h1, h64]
  rw [fin_begun]
theorem is_label_spec (F k : Nat) {c : Nat} {st : Sto} (hc : 97 ≤ c ∧ c ≤ 102) : pr.call F (k + 1) f_is_label [.str [c]] st = .ok (.bl true) st := by
  rw [u_is_label]; simp [b_is_label]; omega
theorem is_node_spec (F k : Nat) {t : T} {st : Sto} (ht : okT t) : pr.call F (k + 2) f_is_node [dT t] st = .ok (.bl true) st := by
  cases t with
  | node c ks =>
    rw [okT] at ht
    obtain ⟨h1, h2, h3⟩ := ht
    have hl : (dTs ks).length = ks.length := by rw [dTs_map]; simp
    have e := is_label_spec F k (st := st) h1
    rw [u_is_node, dT]
    simp [b_is_node, e, hl, (by omega : (ks.length : Int) ≤ 3)]
end Law
namespace Law
open Z
theorem alike_spec (F k : Nat) : ∀ (d : D) (st : Sto), depD d ≤ k → purD d = true → sizD d ≤ 1000000 → pr.call F k f_law_alike [d, d] st = .ok (.bl true) st := by
  induction k with
  | zero => intro d st h; have := depD_pos d; omega
  | succ k ih =>
    intro d st hd hp hz
    rw [u_law_alike]
    cases d with
    | loc n => simp [purD] at hp
    | fl xs => simp [purD] at hp
    | non => simp [b_law_alike]
    | bl b => simp [b_law_alike]
    | int b => simp [b_law_alike]
    | str b => simp [b_law_alike]
    | tup xs =>
      have hzm : xs.length ≤ sizDs xs ∧ ∀ x ∈ xs, sizD x ≤ sizDs xs := by
        clear hd hp hz
        induction xs with
        | nil => exact ⟨Nat.zero_le _, fun x hx => nomatch hx⟩
        | cons y ys ih =>
          rw [sizDs]
          refine ⟨by have := ih.1; simp only [List.length_cons]; omega, fun x hx => ?_⟩
          rcases List.mem_cons.mp hx with rfl | h
          · omega
          · have := ih.2 x h; omega
      rw [sizD] at hz; rw [depD] at hd; rw [purD] at hp
      obtain ⟨ρ', st', e1, rfl, v, rfl⟩ := for_rng (n := xs.length) (tg := .name 2) (b := evSs (pr.cl F k) F l_law_alikeb) (ρ := [some (.tup xs), some (.tup xs), none]) (st := st)
        (fun _ ρ s => s = st ∧ ∃ v, ρ = [some (.tup xs), some (.tup xs), v])
        (by
          intro i ρ s hi ⟨e1, v, e2⟩
          subst e1 e2
          have hx : L2.atI xs (i : Int) = some xs[i] := atI_nat (List.getElem?_eq_getElem hi)
          have e := ih xs[i] s (by have := depDs_mem (List.getElem_mem hi); omega) (purDs_mem hp (List.getElem_mem hi)) (by have := hzm.2 _ (List.getElem_mem hi); omega)
          refine ⟨_, _, _, rfl, .inl ?_, rfl, some (.int i), rfl⟩
          simp [l_law_alikeb, hx, e]) ⟨rfl, none, rfl⟩
      have hi : iLim (xs.length : Int) := by unfold iLim; omega
      simp [b_law_alike, l_law_alike, hi, e1]
end Law
namespace Law
open Z
/-- letters -/
structure okL (L : Tx) : Prop where
  pos : 1 ≤ L.length
  few : L.length ≤ 6
  ok : ∀ x ∈ L, 97 ≤ x ∧ x ≤ 102
theorem take_letter (F k : Nat) (β : Bx) {L : Tx} (h : okL L) : ∃ c r β', (97 ≤ c ∧ c ≤ 102) ∧ c ∈ L ∧ L2.atI L r = some c ∧ ∀ rest, pr.call F (k + 1) f_law_take [.loc 0, .int L.length] (bx β rest) = .ok (.int r) (bx β' rest) := by
  obtain ⟨r, β', h0, h1, e⟩ := take_spec F k β (m := (L.length : Int)) (by have := h.pos; omega) (by have := h.few; omega)
  obtain ⟨c, hc, hat⟩ := take_int h0 h1
  exact ⟨c, r, β', h.ok c hc, hc, hat, e⟩
theorem getset {st : Sto} {l : Nat} {c c' : Cell} (h : st[l]? = some c) : (st.set l c')[l]? = some c' := set_here h
theorem grown_spec (F : Nat) {L : Tx} (hL : okL L) : ∀ (k deep : Nat) (β : Bx) (n : Int), deep ≤ k → 1 ≤ deep → 1 ≤ n → n ≤ 60 →
    ∃ t β' n', okT t ∧ ht t ≤ deep ∧ (sz t : Int) + n' = n ∧ 0 ≤ n' ∧ ∀ rest l, rest[l]? = some (.lst [.int n]) → pr.call F (k + 2) f_law_grown [.loc 0, .str L, .loc (l + 2), .int deep] (bx β rest) = .ok (dT t) (bx β' (rest.set l (.lst [.int n']))) := by
  intro k
  induction k with
  | zero => intro deep β n h1 h2; omega
  | succ k ih =>
    intro deep β n hdk hd1 hn1 hn60
    -- the kids
    have loop : ∀ (xs : List D) (β : Bx) (n : Int) (ks : List T), ks.length + xs.length ≤ 10 → 0 ≤ n → n ≤ 60 → ∃ ks' β' n', okTs ks' ∧ hts ks' + 1 ≤ deep ∧ ks'.length ≤ xs.length ∧ (szs ks' : Int) + n' = n ∧ 0 ≤ n' ∧
        ∀ (w : Wk) rest l v, w.l = none → rest[l]? = some (.lst [.int n]) → ∃ v', loopF w (.name 5) (evSs (pr.cl F (k + 2)) F l_law_grownb) xs [some (.loc 0), some (.str L), some (.loc (l + 2)), some (.int deep), some (.loc (rest.length + 2)), v] (bx β (rest ++ [.lst (dTs ks)])) =
          .ok .nx [some (.loc 0), some (.str L), some (.loc (l + 2)), some (.int deep), some (.loc (rest.length + 2)), v'] (bx β' (rest.set l (.lst [.int n']) ++ [.lst (dTs (ks ++ ks'))])) := by
      intro xs
      induction xs with
      | nil =>
        intro β n ks _ hn0 hn60
        refine ⟨[], β, n, trivial, by rw [hts]; omega, Nat.le_refl _, by rw [szs]; simp, hn0, fun w rest l v hw hl => ⟨v, ?_⟩⟩
        rw [loop_nil (by unfold Wk.stays; rw [hw]), List.append_nil, set_same hl]
      | cons x xs ihx =>
        intro β n ks hlen hn0 hn60
        by_cases c : 1 < deep ∧ 0 < n
        · obtain ⟨t, β1, n1, ot, hht, hsz, hn1, e⟩ := ih (deep - 1) β n (by omega) (by omega) (by omega) hn60
          have hz := sz_pos t
          obtain ⟨ks', β', n', o1, o2, o3, o4, o5, e'⟩ := ihx β1 n1 (ks ++ [t]) (by simp at hlen ⊢; omega) hn1 (by omega)
          refine ⟨t :: ks', β', n', ⟨ot, o1⟩, by rw [hts]; omega, by simp; omega, by rw [szs]; omega, o5, fun w rest l v hw hl => ?_⟩
          have hll := lt_of_at hl
          obtain ⟨v', e2⟩ := e' w (rest.set l (.lst [.int n1])) l (some x) hw (getset hl)
          refine ⟨v', ?_⟩
          have e1 := e (rest ++ [.lst (dTs ks)]) l (app_at _ hl)
          rw [List.set_append_left _ _ hll] at e1
          have hc1 : (1 : Int) < deep := by omega
          rw [show ((deep - 1 : Nat) : Int) = (deep : Int) - 1 by omega] at e1
          rw [List.length_set] at e2
          rw [List.set_set] at e2
          rw [show ks ++ t :: ks' = ks ++ [t] ++ ks' by simp, ← e2]
          have hlk : (dTs ks).length < 100000 := by rw [dTs_map, List.length_map]; simp at hlen; omega
          have h3 := ends_0 (st := rest.set l (.lst [.int n1])) (l := [.lst (dTs ks)]) (c := .lst (dTs ks ++ [dT t]))
          have h4 := end_0 (st := rest.set l (.lst [.int n1])) (l := [.lst (dTs ks)])
          rw [List.length_set] at h3 h4
          refine loop_cons (by unfold Wk.stays; rw [hw]) rfl ?_ rfl
          simp [l_law_grownb, app_at _ hl, hc1, c.2, e1, hlk, h3, h4, dTs_app, dTs]
        · obtain ⟨ks', β', n', o1, o2, o3, o4, o5, e'⟩ := ihx β n ks (by simp at hlen ⊢; omega) hn0 hn60
          refine ⟨ks', β', n', o1, o2, by simp; omega, o4, o5, fun w rest l v hw hl => ?_⟩
          obtain ⟨v', e2⟩ := e' w rest l (some x) hw hl
          refine ⟨v', ?_⟩
          refine loop_cons (by unfold Wk.stays; rw [hw]) rfl ?_ e2
          by_cases c1 : 1 < deep
          · have c2 : ¬ 0 < n := fun z => c ⟨c1, z⟩
            have hc1 : (1 : Int) < deep := by omega
            simp [l_law_grownb, app_at _ hl, hc1, c2]
          · have hc1 : ¬ (1 : Int) < deep := by omega
            simp [l_law_grownb, app_at _ hl, hc1]
    obtain ⟨r, β1, r0, r1, e1⟩ := take_spec F (k + 1) β (m := 4) (by decide) (by decide)
    obtain ⟨m, rfl⟩ := Int.eq_ofNat_of_zero_le r0
    obtain ⟨ks, β2, n2, o1, o2, o3, o4, o5, e2⟩ := loop (rngW 0 m).xs β1 (n - 1) [] (by rw [show (rngW 0 m).xs.length = m by simp [rngW]]; simp; omega) (by omega) (by omega)
    obtain ⟨c, r3, β3, hc, hcL, hat, e3⟩ := take_letter F (k + 1) β2 hL
    rw [show (rngW 0 m).xs.length = m by simp [rngW]] at o3
    refine ⟨.node c ks, β3, n2, ⟨hc, by omega, o1⟩, by rw [ht]; omega, by rw [sz]; omega, o5, fun rest l hl => ?_⟩
    have hll := lt_of_at hl
    obtain ⟨v', e4⟩ := e2 (rngW 0 m) (rest.set l (.lst [.int (n - 1)])) l none rfl (getset hl)
    rw [List.length_set, List.set_set] at e4
    rw [u_law_grown]
    have hi : iLim (m : Int) := by unfold iLim; omega
    have hLl : L.length ≤ 100000 := by have := hL.few; omega
    have h4 := end_0 (st := rest.set l (.lst [.int n2])) (l := [.lst (dTs ks)])
    rw [List.length_set] at h4
    have h5 := getset (c' := .lst [.int n2]) hl
    have e5 : pr.call F (k + 2) f_law_take [.loc 0, .int L.length] (bx β2 (rest.set l (.lst [.int n2]) ++ [.lst (dTs ks)])) = _ := e3 _
    rw [List.nil_append] at e4
    simp [b_law_grown, l_law_grown, hl, e1, hi]
    rw [show dTs [] = [] by rw [dTs]] at e4
    rw [e4]
    simp [hLl, e5, hat, h4]
    rw [fin_bxs (by simp [clC])]
    · rw [dT]
    · simp [dTs_cl]
end Law
namespace Law
open Z
theorem tree_spec (F k : Nat) {L : Tx} (hL : okL L) (β : Bx) : ∃ t β', okT t ∧ ht t ≤ 12 ∧ sz t ≤ 60 ∧ ∀ rest, pr.call F (k + 15) f_law_tree [.loc 0, .str L] (bx β rest) = .ok (dT t) (bx β' rest) := by
  obtain ⟨r, β1, h0, h1, e1⟩ := take_spec F (k + 13) β (m := 4) (by decide) (by decide)
  obtain ⟨r2, β2, g0, g1, e2⟩ := take_spec F (k + 13) β1 (m := 2) (by decide) (by decide)
  obtain ⟨n, hn, hn1, hn6⟩ : ∃ n : Nat, L2.atI [D.int 1, D.int 6, D.int 14, D.int 60] r = some (.int n) ∧ 1 ≤ n ∧ n ≤ 60 := by
    have : r = 0 ∨ r = 1 ∨ r = 2 ∨ r = 3 := by omega
    rcases this with rfl | rfl | rfl | rfl
    · exact ⟨1, by simp, by decide, by decide⟩
    · exact ⟨6, by simp, by decide, by decide⟩
    · exact ⟨14, by simp, by decide, by decide⟩
    · exact ⟨60, by simp, by decide, by decide⟩
  obtain ⟨d, hd, hd1, hd12⟩ : ∃ d : Nat, L2.atI [D.int 4, D.int 12] r2 = some (.int d) ∧ 1 ≤ d ∧ d ≤ 12 := by
    have : r2 = 0 ∨ r2 = 1 := by omega
    rcases this with rfl | rfl
    · exact ⟨4, by simp, by decide, by decide⟩
    · exact ⟨12, by simp, by decide, by decide⟩
  obtain ⟨t, β3, n', o1, o2, o3, o4, e3⟩ := grown_spec F hL (k + 12) d β2 n (by omega) hd1 (by omega) (by omega)
  refine ⟨t, β3, o1, by omega, by omega, fun rest => ?_⟩
  have e4 := e3 (rest ++ [.lst [.int 1, .int 6, .int 14, .int 60], .lst [.int n], .lst [.int 4, .int 12]]) (rest.length + 1) (by simp)
  rw [u_law_tree]
  simp [b_law_tree, e1, e2, hn, hd]
  simp at e4
  rw [show rest.length + 3 = rest.length + 1 + 2 by omega, e4]
  simp [fin_bx, dT_cl]
end Law
/-! texts of trees, read: what comes, or where it breaks -/
namespace Z
inductive PR where | ok (t : T) (r : Tx) | bad (r : Tx)
inductive PK where | ok (ts : List T) (r : Tx) | bad (r : Tx)
def PK.cons (t : T) : PK → PK
  | .ok ts r => .ok (t :: ts) r
  | .bad r => .bad r
/-- kids, behind an opening sign: f reads one -/
def pK (f : Tx → PR) : Nat → Tx → PK
  | 0, x => .bad x
  | n + 1, x => match f x with
    | .bad r => .bad r
    | .ok t [] => .bad []
    | .ok t (c :: r) => if c = 44 then (pK f n r).cons t else if c = 41 then .ok [t] r else .bad (c :: r)
def PK.node (c : Nat) : PK → PR
  | .ok ts r => .ok (.node c ts) r
  | .bad r => .bad r
def pT : Nat → Tx → PR
  | 0, x => .bad x
  | _ + 1, [] => .bad []
  | k + 1, c :: r => if 97 ≤ c ∧ c ≤ 102 then (match r with
    | [] => .ok (.node c []) []
    | d :: r' => if d = 40 then (pK (pT k) (r'.length + 1) r').node c else .ok (.node c []) (d :: r')) else .bad (c :: r)
/-- how deep a text goes at the most -/
def pot : Tx → Nat
  | [] => 0
  | c :: r => if c = 40 then pot r + 1 else if c = 41 then pot r - 1 else pot r
mutual
def labT : T → Prop
  | .node c ks => (97 ≤ c ∧ c ≤ 102) ∧ labTs ks
def labTs : List T → Prop
  | [] => True
  | t :: ts => labT t ∧ labTs ts
end
theorem labTs_mem {ts : List T} : ∀ {t : T}, labTs ts → t ∈ ts → labT t := by
  induction ts with
  | nil => intro t _ h; cases h
  | cons u us ih =>
    intro t o h
    rw [labTs] at o
    rcases List.mem_cons.mp h with rfl | h
    · exact o.1
    · exact ih o.2 h
/-- what is known of a reading -/
structure Got (k : Nat) (x : Tx) (t : T) (r : Tx) : Prop where
  ex : ∃ p, x = p ++ r ∧ p ≠ [] ∧ sz t ≤ p.length
  lab : labT t
  ht : ht t ≤ k
  pot : pot r ≤ pot x
structure GotK (k : Nat) (x : Tx) (ts : List T) (r : Tx) : Prop where
  ex : ∃ p, x = p ++ r ∧ p ≠ [] ∧ szs ts + 1 ≤ p.length
  lab : labTs ts
  ht : hts ts ≤ k
  pot : pot r ≤ pot x + 1
  few : ts.length ≤ x.length
  ne : ts ≠ []
def GoodF (k : Nat) (f : Tx → PR) : Prop := ∀ x, (∀ t r, f x = .ok t r → Got k x t r) ∧ ∀ r, f x = .bad r → ∃ p, x = p ++ r
theorem pK_good {k : Nat} {f : Tx → PR} (hf : GoodF k f) : ∀ (n : Nat) (x : Tx), (∀ ts r, pK f n x = .ok ts r → GotK k x ts r) ∧ ∀ r, pK f n x = .bad r → ∃ p, x = p ++ r := by
  intro n
  induction n with
  | zero => intro x; exact ⟨fun ts r h => (by cases h), fun r h => by cases h; exact ⟨[], rfl⟩⟩
  | succ n ih =>
    intro x
    obtain ⟨f1, f2⟩ := hf x
    rw [pK]
    cases hx : f x with
    | bad r0 => exact ⟨fun ts r h => (by cases h), fun r h => by cases h; exact f2 _ hx⟩
    | ok t r0 =>
      have g := f1 t r0 hx
      obtain ⟨p, e, hp, hs⟩ := g.ex
      cases r0 with
      | nil => exact ⟨fun ts r h => (by cases h), fun r h => by cases h; exact ⟨p, e⟩⟩
      | cons c r1 =>
        simp only
        by_cases h44 : c = 44
        · subst h44
          rw [if_pos rfl]
          obtain ⟨i1, i2⟩ := ih r1
          have hpt : pot r1 ≤ pot x := by have := g.pot; rw [Z.pot] at this; simpa using this
          cases hk : pK f n r1 with
          | ok ts r2 =>
            refine ⟨fun us r h => ?_, fun r h => by cases h⟩
            cases h
            have q := i1 _ _ hk
            obtain ⟨p2, e2, hp2, hs2⟩ := q.ex
            refine ⟨⟨p ++ 44 :: p2, by rw [e, e2]; simp, by simp, ?_⟩, ⟨g.lab, q.lab⟩, ?_, by have := q.pot; omega, ?_, by simp⟩
            · rw [szs, List.length_append, List.length_cons]; omega
            · rw [hts]; exact Nat.max_le.mpr ⟨g.ht, q.ht⟩
            · have := q.few; rw [e]; simp only [List.length_cons, List.length_append]; omega
          | bad r2 =>
            refine ⟨fun us r h => (by cases h), fun r h => ?_⟩
            cases h
            obtain ⟨p2, e2⟩ := i2 _ hk
            exact ⟨p ++ 44 :: p2, by rw [e, e2]; simp⟩
        · rw [if_neg h44]
          by_cases h41 : c = 41
          · subst h41
            rw [if_pos rfl]
            refine ⟨fun us r h => ?_, fun r h => by cases h⟩
            cases h
            refine ⟨⟨p ++ [41], by rw [e]; simp, by simp, ?_⟩, ⟨g.lab, trivial⟩, ?_, ?_, ?_, by simp⟩
            · rw [szs, szs, List.length_append, List.length_cons, List.length_nil]; omega
            · rw [hts, hts]; exact Nat.max_le.mpr ⟨g.ht, Nat.zero_le _⟩
            · have := g.pot; rw [Z.pot] at this; simp at this; omega
            · rw [e]; simp; omega
          · rw [if_neg h41]
            exact ⟨fun us r h => (by cases h), fun r h => by cases h; exact ⟨p, e⟩⟩
theorem pot_lab {c : Nat} {r : Tx} (h : 97 ≤ c ∧ c ≤ 102) : pot (c :: r) = pot r := by
  rw [pot, if_neg (by omega), if_neg (by omega)]
theorem pT_good : ∀ k, GoodF k (pT k) := by
  intro k
  induction k with
  | zero => intro x; rw [pT]; exact ⟨fun t r h => (by cases h), fun r h => by cases h; exact ⟨[], rfl⟩⟩
  | succ k ih =>
    intro x
    cases x with
    | nil => rw [pT]; exact ⟨fun t r h => (by cases h), fun r h => by cases h; exact ⟨[], rfl⟩⟩
    | cons c r =>
      rw [pT.eq_def]
      simp only
      by_cases hc : 97 ≤ c ∧ c ≤ 102
      · rw [if_pos hc]
        cases r with
        | nil =>
          refine ⟨fun t r h => ?_, fun r h => by cases h⟩
          cases h
          exact ⟨⟨[c], rfl, by simp, by rw [sz, szs]; simp⟩, ⟨hc, trivial⟩, by rw [Z.ht, hts]; omega, by rw [pot_lab hc]; exact Nat.le_refl _⟩
        | cons d r' =>
          simp only
          by_cases hd : d = 40
          · subst hd
            rw [if_pos rfl]
            obtain ⟨i1, i2⟩ := pK_good ih (r'.length + 1) r'
            cases hk : pK (pT k) (r'.length + 1) r' with
            | ok ts r2 =>
              refine ⟨fun t r h => ?_, fun r h => by cases h⟩
              cases h
              have q := i1 _ _ hk
              obtain ⟨p, e, hp, hs⟩ := q.ex
              refine ⟨⟨c :: 40 :: p, by rw [e]; rfl, by simp, by rw [sz]; simp only [List.length_cons]; omega⟩, ⟨hc, q.lab⟩, by rw [Z.ht]; have := q.ht; omega, ?_⟩
              rw [pot_lab hc]
              have := q.pot
              show pot r2 ≤ pot (40 :: r')
              rw [Z.pot, if_pos rfl]; exact this
            | bad r2 =>
              refine ⟨fun t r h => (by cases h), fun r h => ?_⟩
              cases h
              obtain ⟨p, e⟩ := i2 _ hk
              exact ⟨c :: 40 :: p, by rw [e]; rfl⟩
          · rw [if_neg hd]
            refine ⟨fun t r h => ?_, fun r h => by cases h⟩
            cases h
            exact ⟨⟨[c], rfl, by simp, by rw [sz, szs]; simp⟩, ⟨hc, trivial⟩, by rw [Z.ht, hts]; omega, by rw [pot_lab hc]; exact Nat.le_refl _⟩
      · rw [if_neg hc]
        exact ⟨fun t r h => (by cases h), fun r h => by cases h; exact ⟨[], rfl⟩⟩
end Z
namespace Law
open Z
/-- the place at which a rest begins -/
def pos (X r : Tx) : Int := (X.length : Int) - (r.length : Int)
theorem pos_app {p r : Tx} : pos (p ++ r) r = (p.length : Int) := by unfold pos; rw [List.length_append]; omega
theorem at_app {p r : Tx} {c : Nat} : L2.atI (p ++ c :: r) ((p.length : Nat) : Int) = some c := atI_nat (by simp)
theorem dT_ne (t : T) : ¬ dT t = .non := by cases t; simp [dT]
def resD (X : Tx) : PR → D
  | .ok t r => .tup [dT t, .int (pos X r)]
  | .bad r => .tup [.non, .int (pos X r)]
section
variable (F : Nat)
theorem part_loop {k j : Nat} {X : Tx} {st : Sto} {v1 : Option D} (hX : X.length ≤ 1000)
    (IH : ∀ (x p : Tx) (i : Int) (s : Sto), X = p ++ x → i = p.length → pot x < k → pr.call F (k + j) f_law_part [.str X, .int i] s = .ok (resD X (pT k x)) s) :
    ∀ (n : Nat) (x p : Tx) (c : Nat) (A : List T) (v5 : Option D) (fuel : Nat), X = p ++ c :: x → x.length < n → n < fuel → pot x < k → A.length + x.length ≤ 2000 →
    (∀ ts r, pK (pT k) n x = .ok ts r → ∃ v5', loopW (evT (pr.cl F (k + j)) (.cmp .eq (.var 4) (.cst (.str [44])))) (evSs (pr.cl F (k + j)) F l_law_partb) fuel [some (.str X), v1, some (.int p.length), some (.loc st.length), some (.str [44]), v5] (st ++ [.lst (A.map dT)])
        = .ok .nx [some (.str X), v1, some (.int (pos X r - 1)), some (.loc st.length), some (.str [41]), v5'] (st ++ [.lst ((A ++ ts).map dT)])) ∧
    (∀ r, pK (pT k) n x = .bad r → ∃ ρ' g, loopW (evT (pr.cl F (k + j)) (.cmp .eq (.var 4) (.cst (.str [44])))) (evSs (pr.cl F (k + j)) F l_law_partb) fuel [some (.str X), v1, some (.int p.length), some (.loc st.length), some (.str [44]), v5] (st ++ [.lst (A.map dT)])
        = .ok (.rt (.tup [.non, .int (pos X r)])) ρ' (st ++ g)) := by
  intro n
  induction n with
  | zero => intro x p c A v5 fuel _ h; omega
  | succ n ih =>
    intro x p c A v5 fuel hXe hn hf hp hA
    obtain ⟨fuel, rfl⟩ : ∃ m, fuel = m + 1 := ⟨fuel - 1, by omega⟩
    have hcall := fun s => IH x (p ++ [c]) ((p.length : Int) + 1) s (by rw [hXe]; simp) (by simp) hp
    have test : ev (pr.cl F (k + j)) (.cmp .eq (.var 4) (.cst (.str [44]))) [some (.str X), v1, some (.int p.length), some (.loc st.length), some (.str [44]), v5] (st ++ [.lst (A.map dT)]) = .ok (.bl true) (st ++ [.lst (A.map dT)]) := by simp
    rw [pK]
    cases hx : pT k x with
    | bad r0 =>
      rw [hx] at hcall
      simp only [resD] at hcall
      refine ⟨fun ts r h => (by cases h), fun r h => ?_⟩
      cases h
      refine ⟨[some (.str X), v1, some (.int (pos X r0)), some (.loc st.length), some (.str [44]), some .non], [.lst (A.map dT)], ?_⟩
      unfold loopW
      rw [evT, test]
      simp [l_law_partb, hcall]
    | ok t r0 =>
      rw [hx] at hcall
      simp only [resD] at hcall
      have g := (pT_good k x).1 t r0 hx
      obtain ⟨q, e, hq, hs⟩ := g.ex
      have hAl : A.length < 100000 := by omega
      have hne := dT_ne t
      cases r0 with
      | nil =>
        refine ⟨fun ts r h => (by cases h), fun r h => ?_⟩
        cases h
        refine ⟨[some (.str X), v1, some (.int (pos X [])), some (.loc st.length), some (.str [44]), some (dT t)], [.lst (A.map dT ++ [dT t])], ?_⟩
        have hpos : pos X [] = (X.length : Int) := by simp [pos]
        rw [hpos] at hcall
        rw [hpos]
        unfold loopW
        rw [evT, test]
        simp [l_law_partb, hcall, hne, hAl, (by omega : X.length ≤ 100000)]
      | cons d r1 =>
        have hXd : X = (p ++ c :: q) ++ d :: r1 := by rw [hXe, e]; simp
        have hpos : pos X (d :: r1) = ((p ++ c :: q).length : Nat) := by rw [hXd]; exact pos_app
        have hlt : ¬ (X.length : Int) ≤ ((p ++ c :: q).length : Nat) := by rw [hXd]; simp only [List.length_append, List.length_cons]; omega
        have hat : L2.atI X (((p ++ c :: q).length : Nat) : Int) = some d := by rw [hXd]; exact at_app
        rw [hpos] at hcall
        generalize hP : (p ++ c :: q) = P at hXd hpos hlt hat hcall
        have body : ∀ w, (d = 44 ∨ d = 41) → evSs (pr.cl F (k + j)) F l_law_partb [some (.str X), v1, some (.int p.length), some (.loc st.length), some (.str [44]), w] (st ++ [.lst (A.map dT)]) =
            .ok .nx [some (.str X), v1, some (.int (P.length : Nat)), some (.loc st.length), some (.str [d]), some (dT t)] (st ++ [.lst ((A ++ [t]).map dT)]) := fun w hd => by
          rcases hd with rfl | rfl <;> simp [l_law_partb, hcall, hne, hAl, (by omega : X.length ≤ 100000), hlt, hat]
        simp only
        by_cases h44 : d = 44
        · subst h44
          rw [if_pos rfl]
          have hl1 : r1.length < n := by rw [e] at hn; simp only [List.length_append, List.length_cons] at hn; omega
          have hpt : pot r1 < k := by have := g.pot; rw [pot] at this; simp at this; omega
          have hl2 : A.length + 1 + r1.length ≤ 2000 := by
            have : q.length ≠ 0 := by simpa using hq
            rw [e] at hA; simp only [List.length_append, List.length_cons] at hA; omega
          obtain ⟨J1, J2⟩ := ih r1 P 44 (A ++ [t]) (some (dT t)) fuel hXd hl1 (by omega) hpt (by simpa using hl2)
          refine ⟨fun us r h => ?_, fun r h => ?_⟩
          · cases hk : pK (pT k) n r1 with
            | bad r2 => rw [hk] at h; cases h
            | ok ts r2 =>
              rw [hk] at h
              cases h
              obtain ⟨v5', e5⟩ := J1 _ _ hk
              refine ⟨v5', ?_⟩
              rw [w_turn test (body v5 (.inl rfl)) e5]
              simp
          · cases hk : pK (pT k) n r1 with
            | ok ts r2 => rw [hk] at h; cases h
            | bad r2 =>
              rw [hk] at h
              cases h
              obtain ⟨ρ', g', e5⟩ := J2 _ hk
              exact ⟨ρ', g', by rw [w_turn test (body v5 (.inl rfl)) e5]⟩
        · rw [if_neg h44]
          by_cases h41 : d = 41
          · subst h41
            rw [if_pos rfl]
            refine ⟨fun us r h => ?_, fun r h => by cases h⟩
            cases h
            obtain ⟨fuel, rfl⟩ : ∃ m, fuel = m + 1 := ⟨fuel - 1, by omega⟩
            refine ⟨some (dT t), ?_⟩
            have hp1 : pos X r1 - 1 = (P.length : Nat) := by rw [hXd]; unfold pos; simp only [List.length_append, List.length_cons]; omega
            rw [hp1]
            refine w_turn test (body v5 (.inr rfl)) (w_stop ?_)
            simp
          · rw [if_neg h41]
            refine ⟨fun us r h => (by cases h), fun r h => ?_⟩
            cases h
            refine ⟨[some (.str X), v1, some (.int (P.length : Nat)), some (.loc st.length), some (.str [44]), some (dT t)], [.lst (A.map dT ++ [dT t])], ?_⟩
            rw [hpos]
            unfold loopW
            rw [evT, test]
            simp [l_law_partb, hcall, hne, hAl, (by omega : X.length ≤ 100000), hlt, hat, h44, h41]
theorem law_part_spec {X : Tx} (j : Nat) (hX : X.length ≤ 1000) (hF : 1100 < F) : ∀ (k : Nat) (x p : Tx) (i : Int) (st : Sto), X = p ++ x → i = p.length → pot x < k → pr.call F (k + j) f_law_part [.str X, .int i] st = .ok (resD X (pT k x)) st := by
  intro k
  induction k with
  | zero => intro x p i st _ _ h; omega
  | succ k ih =>
    intro x p i st hXe hi hp
    subst hi
    have hXl : X.length ≤ 100000 := by omega
    rw [show k + 1 + j = k + j + 1 by omega, u_law_part]
    cases x with
    | nil =>
      have hl : (X.length : Int) ≤ (p.length : Int) := by rw [hXe]; simp
      have hps : pos X [] = (p.length : Int) := by rw [hXe]; simp [pos]
      simp [b_law_part, hXl, hl, pT, resD, hps]
    | cons c r =>
      have hl : ¬ (X.length : Int) ≤ (p.length : Int) := by rw [hXe]; simp; omega
      have hat : L2.atI X (p.length : Int) = some c := by rw [hXe]; exact at_app
      have hps : pos X (c :: r) = (p.length : Int) := by rw [hXe]; exact pos_app
      rw [pT.eq_def]
      simp only
      by_cases hc : 97 ≤ c ∧ c ≤ 102
      · rw [if_pos hc]
        have hc' : c = 97 ∨ c = 98 ∨ c = 99 ∨ c = 100 ∨ c = 101 ∨ c = 102 := by omega
        cases r with
        | nil =>
          have hl1 : ¬ (p.length : Int) + 1 < (X.length : Int) := by rw [hXe]; simp
          have hps1 : pos X [] = (p.length : Int) + 1 := by rw [hXe]; simp [pos]
          simp [b_law_part, hXl, hl, hl1, hat, hc', resD, hps1, dT, dTs]
        | cons d r' =>
          have hl1 : (p.length : Int) + 1 < (X.length : Int) := by rw [hXe]; simp; omega
          have hXd : X = (p ++ [c]) ++ d :: r' := by rw [hXe]; simp
          have hat1 : L2.atI X ((p.length : Int) + 1) = some d := by
            have := at_app (p := p ++ [c]) (c := d) (r := r')
            rw [← hXd] at this
            simpa using this
          have hps1 : pos X (d :: r') = (p.length : Int) + 1 := by rw [hXd, pos_app]; simp
          simp only
          by_cases hd : d = 40
          · subst hd
            rw [if_pos rfl]
            have hp' : pot r' < k := by rw [pot_lab hc, pot, if_pos rfl] at hp; omega
            have hlen : r'.length + 1 < F := by rw [hXe] at hX; simp at hX; omega
            obtain ⟨J1, J2⟩ := part_loop F (k := k) (j := j) (X := X) (st := st) (v1 := some (.int p.length)) hX (fun x p i s => ih x p i s) (r'.length + 1) r' (p ++ [c]) 40 [] none F hXd (by omega) hlen hp' (by rw [hXe] at hX; simp at hX ⊢; omega)
            have hcast : (((p ++ [c]).length : Nat) : Int) = (p.length : Int) + 1 := by simp
            rw [hcast] at J1 J2
            cases hk : pK (pT k) (r'.length + 1) r' with
            | ok ts r2 =>
              obtain ⟨v5', e5⟩ := J1 _ _ hk
              have q := (pK_good (pT_good k) (r'.length + 1) r').1 _ _ hk
              have hcl : clD 0 (.tup [.tup [.str [c], .tup (ts.map dT)], .int (pos X r2)]) = true := by
                have := dT_cl (.node c ts)
                rw [dT, dTs_map] at this
                simpa [clD, clDs] using this
              simp [b_law_part, l_law_part, hXl, hl, hl1, hat, hat1, hc', PK.node, resD, dT, dTs_map] at e5 ⊢
              simp [e5, hXl, hat]
              exact finish_new _ _ _ hcl
            | bad r2 =>
              obtain ⟨ρ', g', e5⟩ := J2 _ hk
              simp [b_law_part, l_law_part, hXl, hl, hl1, hat, hat1, hc', PK.node, resD] at e5 ⊢
              simp [e5]
          · rw [if_neg hd]
            simp [b_law_part, hXl, hl, hl1, hat, hat1, hc', hd, resD, hps1, dT, dTs]
      · rw [if_neg hc]
        have hc' : ¬ (c = 97 ∨ c = 98 ∨ c = 99 ∨ c = 100 ∨ c = 101 ∨ c = 102) := by omega
        simp [b_law_part, hXl, hl, hat, hc', resD, hps]
end
end Law
namespace Law
open Z
/-! ### the program's reader -/
def sg (X : Tx) (i : Int) : Cell := .ins 0 [(n_text, .str X), (n_at, .int i), (n_kind, .str [116, 114, 101, 101])]
def bt (i : Int) : Ex := ⟨c_BadText, some (n_number, .int i)⟩
section
variable {s g h : Sto} {c c' : Cell} {d : D}
@[simp] theorem so_get : (s ++ c :: g)[s.length]? = some c := by simp
@[simp] theorem so_set : (s ++ c :: g).set s.length c' = s ++ c' :: g := by simp
theorem so_get2 : (s ++ c :: (g ++ c' :: h))[s.length + (g.length + 1)]? = some c' := by
  rw [List.getElem?_append_right (by omega), Nat.add_sub_cancel_left]; simp
theorem so_set2 {x : Cell} : (s ++ c :: (g ++ c' :: h)).set (s.length + (g.length + 1)) x = s ++ c :: (g ++ x :: h) := by
  rw [List.set_append_right _ _ (by omega), Nat.add_sub_cancel_left]; simp
theorem old_so {X : Tx} {j : Int} : OldOk (s ++ c :: g) (s ++ sg X j :: (g ++ h)) := fun k hk => by
  by_cases h1 : k < s.length
  · left
    rw [List.getElem?_append_left h1, List.getElem?_append_left h1]
  · by_cases h2 : k = s.length
    · subst h2
      right
      rw [so_get]; rfl
    · left
      rw [List.getElem?_append_right (by omega), List.getElem?_append_right (by omega)]
      obtain ⟨m, rfl⟩ : ∃ m, k = s.length + 1 + m := ⟨k - s.length - 1, by omega⟩
      simp only [List.length_append, List.length_cons] at hk
      rw [show s.length + 1 + m - s.length = m + 1 by omega, List.getElem?_cons_succ, List.getElem?_cons_succ, List.getElem?_append_left (by omega)]
theorem fin_so {X : Tx} {j : Int} (hd : clD 0 d = true) : finish (s ++ c :: g) (.ok d (s ++ sg X j :: (g ++ h))) = .ok d (s ++ sg X j :: g) := by
  rw [finish_old old_so (all_mono (Nat.zero_le _) (clD_locs hd))]
  congr 1
  rw [show s ++ sg X j :: (g ++ h) = (s ++ sg X j :: g) ++ h by simp, List.take_left' (by simp)]
theorem fin_so0 {X : Tx} {j : Int} (hd : clD 0 d = true) : finish (s ++ c :: g) (.ok d (s ++ sg X j :: g)) = .ok d (s ++ sg X j :: g) := by
  have := fin_so (s := s) (g := g) (h := []) (c := c) (X := X) (j := j) hd
  rwa [List.append_nil] at this
theorem fin_ex {X : Tx} {j : Int} {e : Ex} (he : exC e = true) : finish (s ++ c :: g) (.exc e (s ++ sg X j :: (g ++ h))) = .exc e (s ++ sg X j :: g) := by
  show (if exC e = true ∧ OldOk (s ++ c :: g) (s ++ sg X j :: (g ++ h)) then R.exc e ((s ++ sg X j :: (g ++ h)).take (s ++ c :: g).length) else _) = _
  rw [if_pos ⟨he, old_so⟩]
  congr 1
  rw [show s ++ sg X j :: (g ++ h) = (s ++ sg X j :: g) ++ h by simp, List.take_left' (by simp)]
theorem fin_ex0 {X : Tx} {j : Int} {e : Ex} (he : exC e = true) : finish (s ++ c :: g) (.exc e (s ++ sg X j :: g)) = .exc e (s ++ sg X j :: g) := by
  have := fin_ex (s := s) (g := g) (h := []) (c := c) (X := X) (j := j) he
  rwa [List.append_nil] at this
end
section
variable {a b c d : D}
@[simp] theorem lk_text : List.lookup n_text [(n_text, a), (n_at, b), (n_kind, c)] = some a := (rfl)
@[simp] theorem lk_at : List.lookup n_at [(n_text, a), (n_at, b), (n_kind, c)] = some b := (rfl)
@[simp] theorem lk_kind : List.lookup n_kind [(n_text, a), (n_at, b), (n_kind, c)] = some c := (rfl)
@[simp] theorem lk_here : List.lookup n_here [(n_text, a), (n_at, b), (n_kind, c)] = none := (rfl)
@[simp] theorem lk_take : List.lookup n_take [(n_text, a), (n_at, b), (n_kind, c)] = none := (rfl)
@[simp] theorem lk_part : List.lookup n_part [(n_text, a), (n_at, b), (n_kind, c)] = none := (rfl)
@[simp] theorem lk_do : List.lookup n_do [(n_text, a), (n_at, b), (n_kind, c)] = none := (rfl)
@[simp] theorem lk_whole : List.lookup n_whole [(n_text, a), (n_at, b), (n_kind, c)] = none := (rfl)
@[simp] theorem pf_at : putF' n_at d [(n_text, a), (n_at, b), (n_kind, c)] = [(n_text, a), (n_at, d), (n_kind, c)] := by simp [putF']
end
@[simp] theorem SR_turn_exc (e : Ex) (ρ : Env) (st : Sto) (f : Env → Sto → SR) : (SR.exc e ρ st).turn f = .exc e ρ st := (rfl)
theorem cut_one (X : Tx) (i : Nat) : cutD X (some (i : Int)) (some ((i : Int) + 1)) = (X.drop i).take 1 := by
  unfold cutD
  rw [show ((i : Int) + 1) = ((i + 1 : Nat) : Int) by omega, HT.sIx_nat, HT.sIx_nat]
  by_cases h : i + 1 ≤ X.length
  · rw [Nat.min_eq_left h, Nat.min_eq_left (by omega), Nat.add_sub_cancel_left]
  · rw [Nat.min_eq_right (by omega)]
    by_cases h2 : i = X.length
    · subst h2; simp
    · rw [Nat.min_eq_right (by omega), List.drop_eq_nil_of_le (by omega : X.length ≤ i)]; simp
section
variable (F k : Nat) {s g : Sto} {X p x : Tx} {i : Int}
theorem here_spec (hX : X.length ≤ 1000) (e : X = p ++ x) (hi : i = p.length) : pr.call F (k + 1) f_Signs_here [.loc s.length] (s ++ sg X i :: g) = .ok (.str (x.take 1)) (s ++ sg X i :: g) := by
  subst hi
  have hd : X.drop p.length = x := by rw [e, List.drop_left' rfl]
  rw [u_Signs_here]
  simp [b_Signs_here, sg, (by omega : X.length ≤ 100000), cut_one, hd]
theorem take_sign (hX : X.length ≤ 1000) {c : Nat} {r signs : Tx} (e : X = p ++ c :: r) (hi : i = p.length) (hc : c ∈ signs) : pr.call F (k + 2) f_Signs_take [.loc s.length, .str signs] (s ++ sg X i :: g) = .ok (.str [c]) (s ++ sg X (i + 1) :: g) := by
  have e := here_spec F k (s := s) (g := g) hX e hi
  have f := fin_so0 (s := s) (g := g) (c := sg X i) (X := X) (j := i + 1) (d := .str [c]) rfl
  rw [u_Signs_take]
  simp [b_Signs_take, sg] at e f ⊢
  simp [e, hc, f]
theorem take_bad (hX : X.length ≤ 1000) {signs : Tx} (e : X = p ++ x) (hi : i = p.length) (hc : ∀ c r, x = c :: r → c ∉ signs) : pr.call F (k + 2) f_Signs_take [.loc s.length, .str signs] (s ++ sg X i :: g) = .exc (bt i) (s ++ sg X i :: g) := by
  have e := here_spec F k (s := s) (g := g) hX e hi
  have f := fin_ex0 (s := s) (g := g) (c := sg X i) (X := X) (j := i) (e := bt i) rfl
  rw [u_Signs_take]
  cases x with
  | nil =>
    simp [b_Signs_take, sg, bt] at e f ⊢
    simp [e, f]
  | cons c r =>
    have hn := hc c r rfl
    simp [b_Signs_take, sg, bt] at e f ⊢
    simp [e, hn, f]
end
/-- behind a kid -/
def rK (f : Tx → PR) (n : Nat) : Tx → PK
  | [] => .bad []
  | c :: r => if c = 44 then pK f n r else if c = 41 then .ok [] r else .bad (c :: r)
theorem pK_rK (f : Tx → PR) (n : Nat) (x : Tx) : pK f (n + 1) x = match f x with | .bad r => .bad r | .ok t r => (rK f n r).cons t := by
  rw [pK]
  cases f x with
  | bad r => rfl
  | ok t r =>
    cases r with
    | nil => rfl
    | cons c r =>
      simp only [rK]
      by_cases h : c = 44
      · rw [if_pos h, if_pos h]
      · rw [if_neg h, if_neg h]
        by_cases h2 : c = 41
        · rw [if_pos h2, if_pos h2]; rfl
        · rw [if_neg h2, if_neg h2]; rfl
def resS (s g : Sto) (X : Tx) : PR → R D
  | .ok t r => .ok (dT t) (s ++ sg X (pos X r) :: g)
  | .bad r => .exc (bt (pos X r)) (s ++ sg X (pos X r) :: g)
section
variable (F : Nat)
theorem kids_loop {k : Nat} {s g : Sto} {X : Tx} {v1 : Option D} (hX : X.length ≤ 1000)
    (IH : ∀ (x p : Tx) (i : Int) (g : Sto), X = p ++ x → i = p.length → pot x < k → pr.call F (k + 2) f_Signs_part [.loc s.length] (s ++ sg X i :: g) = resS s g X (pT k x)) :
    ∀ (n : Nat) (x p : Tx) (i : Int) (A : List T) (fuel : Nat), X = p ++ x → i = p.length → x.length < n → n < fuel → pot x < k → A.length + x.length ≤ 2000 →
    (∀ ts r, rK (pT k) n x = .ok ts r → loopW (evT (pr.cl F (k + 2)) (.cmp .eq (.om n_take m_take (.var 0) (.cons (.cst (.str [44, 41])) .nil)) (.cst (.str [44])))) (evSs (pr.cl F (k + 2)) F l_Signs_partb) fuel [some (.loc s.length), v1, some (.loc (s.length + (g.length + 1)))] (s ++ sg X i :: (g ++ [.lst (A.map dT)]))
        = .ok .nx [some (.loc s.length), v1, some (.loc (s.length + (g.length + 1)))] (s ++ sg X (pos X r) :: (g ++ [.lst ((A ++ ts).map dT)]))) ∧
    (∀ r, rK (pT k) n x = .bad r → ∃ ρ' h, loopW (evT (pr.cl F (k + 2)) (.cmp .eq (.om n_take m_take (.var 0) (.cons (.cst (.str [44, 41])) .nil)) (.cst (.str [44])))) (evSs (pr.cl F (k + 2)) F l_Signs_partb) fuel [some (.loc s.length), v1, some (.loc (s.length + (g.length + 1)))] (s ++ sg X i :: (g ++ [.lst (A.map dT)]))
        = .exc (bt (pos X r)) ρ' (s ++ sg X (pos X r) :: (g ++ h))) := by
  intro n
  induction n with
  | zero => intro x p i A fuel _ _ h; omega
  | succ n ih =>
    intro x p i A fuel hXe hi hn hf hp hA
    obtain ⟨fuel, rfl⟩ : ∃ m, fuel = m + 1 := ⟨fuel - 1, by omega⟩
    have bad : (∀ c r, x = c :: r → c ∉ ([44, 41] : Tx)) → ∃ ρ' h, loopW (evT (pr.cl F (k + 2)) (.cmp .eq (.om n_take m_take (.var 0) (.cons (.cst (.str [44, 41])) .nil)) (.cst (.str [44])))) (evSs (pr.cl F (k + 2)) F l_Signs_partb) (fuel + 1) [some (.loc s.length), v1, some (.loc (s.length + (g.length + 1)))] (s ++ sg X i :: (g ++ [.lst (A.map dT)]))
        = .exc (bt (pos X x)) ρ' (s ++ sg X (pos X x) :: (g ++ h)) := fun hb => by
      have e := take_bad F k (s := s) (g := g ++ [.lst (A.map dT)]) hX hXe hi hb
      have hps : pos X x = i := by rw [hXe, pos_app, hi]
      rw [hps]
      refine ⟨[some (.loc s.length), v1, some (.loc (s.length + (g.length + 1)))], [.lst (A.map dT)], ?_⟩
      unfold loopW
      rw [evT]
      simp [sg, bt] at e ⊢
      simp [e]
    cases x with
    | nil =>
      refine ⟨fun ts r h => (by cases h), fun r h => ?_⟩
      cases h
      exact bad fun c r h => (by cases h)
    | cons c x =>
      rw [rK]
      by_cases h44 : c = 44
      · subst h44
        rw [if_pos rfl]
        have e := take_sign F k (s := s) (g := g ++ [.lst (A.map dT)]) (signs := [44, 41]) hX hXe hi (by simp)
        have hX2 : X = (p ++ [44]) ++ x := by rw [hXe]; simp
        have hi2 : i + 1 = ((p ++ [44]).length : Nat) := by rw [hi]; simp
        have hpx : pot x < k := by rw [pot] at hp; simpa using hp
        have hxn : x.length < n := by simp at hn; omega
        have test : ev (pr.cl F (k + 2)) (.cmp .eq (.om n_take m_take (.var 0) (.cons (.cst (.str [44, 41])) .nil)) (.cst (.str [44]))) [some (.loc s.length), v1, some (.loc (s.length + (g.length + 1)))] (s ++ sg X i :: (g ++ [.lst (A.map dT)])) = .ok (.bl true) (s ++ sg X (i + 1) :: (g ++ [.lst (A.map dT)])) := by
          simp [sg] at e ⊢
          simp [e]
        have hcall := IH x (p ++ [44]) (i + 1) (g ++ [.lst (A.map dT)]) hX2 hi2 hpx
        have hAl : A.length < 100000 := by omega
        rw [pK_rK]
        cases hx : pT k x with
        | bad r0 =>
          refine ⟨fun ts r h => (by cases h), fun r h => ?_⟩
          cases h
          rw [hx] at hcall
          simp only [resS] at hcall
          refine ⟨[some (.loc s.length), v1, some (.loc (s.length + (g.length + 1)))], [.lst (A.map dT)], ?_⟩
          unfold loopW
          rw [evT, test]
          simp [sg, l_Signs_partb, bt] at hcall ⊢
          simp [hcall]
        | ok t r0 =>
          rw [hx] at hcall
          simp only [resS] at hcall
          have gt := (pT_good k x).1 t r0 hx
          obtain ⟨q, e2, hq, hs⟩ := gt.ex
          have hq' : q.length ≠ 0 := by simpa using hq
          have hX3 : X = (p ++ 44 :: q) ++ r0 := by rw [hXe, e2]; simp
          have hi3 : pos X r0 = ((p ++ 44 :: q).length : Nat) := by rw [hX3]; exact pos_app
          have hlx : x.length = q.length + r0.length := by rw [e2, List.length_append]
          simp only [List.length_cons] at hA hn
          obtain ⟨j1, j2⟩ := ih r0 (p ++ 44 :: q) (pos X r0) (A ++ [t]) fuel hX3 hi3 (by omega) (by omega) (by have := gt.pot; omega) (by simp; omega)
          have body : evSs (pr.cl F (k + 2)) F l_Signs_partb [some (.loc s.length), v1, some (.loc (s.length + (g.length + 1)))] (s ++ sg X (i + 1) :: (g ++ [.lst (A.map dT)])) = .ok .nx [some (.loc s.length), v1, some (.loc (s.length + (g.length + 1)))] (s ++ sg X (pos X r0) :: (g ++ [.lst ((A ++ [t]).map dT)])) := by
            simp [sg, l_Signs_partb] at hcall ⊢
            simp [hcall, so_get2, so_set2, hAl]
          refine ⟨fun ts r h => ?_, fun r h => ?_⟩
          · cases hk : rK (pT k) n r0 with
            | bad r2 => change PK.cons t (rK (pT k) n r0) = _ at h; rw [hk] at h; cases h
            | ok us r2 =>
              change PK.cons t (rK (pT k) n r0) = _ at h
              rw [hk] at h
              cases h
              rw [w_turn test body (j1 _ _ hk)]
              simp
          · cases hk : rK (pT k) n r0 with
            | ok us r2 => change PK.cons t (rK (pT k) n r0) = _ at h; rw [hk] at h; cases h
            | bad r2 =>
              change PK.cons t (rK (pT k) n r0) = _ at h
              rw [hk] at h
              cases h
              obtain ⟨ρ', h', e5⟩ := j2 _ hk
              exact ⟨ρ', h', by rw [w_turn test body e5]⟩
      · rw [if_neg h44]
        by_cases h41 : c = 41
        · subst h41
          rw [if_pos rfl]
          refine ⟨fun ts r h => ?_, fun r h => by cases h⟩
          cases h
          have e := take_sign F k (s := s) (g := g ++ [.lst (A.map dT)]) (signs := [44, 41]) hX hXe hi (by simp)
          have hps : pos X x = i + 1 := by rw [hXe, hi]; unfold pos; simp; omega
          rw [hps, List.append_nil]
          refine w_stop ?_
          simp [sg] at e ⊢
          simp [e]
        · rw [if_neg h41]
          refine ⟨fun ts r h => (by cases h), fun r h => ?_⟩
          cases h
          exact bad fun c' r' h => by cases h; simp [h44, h41]
theorem part_spec {X : Tx} (hX : X.length ≤ 1000) (hF : 1100 < F) : ∀ (k : Nat) (x p : Tx) (i : Int) (s g : Sto), X = p ++ x → i = p.length → pot x < k → pr.call F (k + 2) f_Signs_part [.loc s.length] (s ++ sg X i :: g) = resS s g X (pT k x) := by
  intro k
  induction k with
  | zero => intro x p i s g _ _ h; omega
  | succ k ih =>
    intro x p i s g hXe hi hp
    have hlab : ∀ c : Nat, c ∈ ([97, 98, 99, 100, 101, 102] : Tx) ↔ (97 ≤ c ∧ c ≤ 102) := fun c => by simp; omega
    have bad : (∀ c r, x = c :: r → ¬ (97 ≤ c ∧ c ≤ 102)) → pr.call F (k + 3) f_Signs_part [.loc s.length] (s ++ sg X i :: g) = .exc (bt (pos X x)) (s ++ sg X (pos X x) :: g) := fun hb => by
      have e := take_bad F k (s := s) (g := g) (signs := [97, 98, 99, 100, 101, 102]) hX hXe hi fun c r h => by rw [hlab]; exact hb c r h
      have hps : pos X x = i := by rw [hXe, pos_app, hi]
      have f := fin_ex0 (s := s) (g := g) (c := sg X i) (X := X) (j := i) (e := bt i) rfl
      rw [hps, u_Signs_part]
      simp [b_Signs_part, sg, bt] at e f ⊢
      simp [e, f]
    cases x with
    | nil =>
      rw [pT]
      exact bad fun c r h => (by cases h)
    | cons c r =>
      by_cases hc : 97 ≤ c ∧ c ≤ 102
      · have e1 := take_sign F k (s := s) (g := g) (signs := [97, 98, 99, 100, 101, 102]) hX hXe hi ((hlab c).mpr hc)
        have hX1 : X = (p ++ [c]) ++ r := by rw [hXe]; simp
        have hi1 : i + 1 = ((p ++ [c]).length : Nat) := by rw [hi]; simp
        have e2 := here_spec F (k + 2) (s := s) (g := g ++ [.lst []]) hX hX1 hi1
        have e2' := here_spec F (k + 1) (s := s) (g := g ++ [.lst []]) hX hX1 hi1
        rw [u_Signs_part, pT.eq_def]
        simp only
        rw [if_pos hc]
        have leaf : (∀ d r', r = d :: r' → d ≠ 40) → finish (s ++ sg X i :: g) (runB (evSs (pr.cl F (k + 2)) F b_Signs_part [some (.loc s.length), none, none] (s ++ sg X i :: g))) = .ok (dT (.node c [])) (s ++ sg X (pos X r) :: g) := fun hd => by
          have hps : pos X r = i + 1 := by rw [hX1, pos_app, hi]; simp
          have hne : ¬ (r.take 1 = [40]) := fun z => by
            cases r with
            | nil => cases z
            | cons d r' => exact hd d r' rfl (by simpa using z)
          have f := fin_so (s := s) (g := g) (h := [.lst []]) (c := sg X i) (X := X) (j := i + 1) (d := dT (.node c [])) (dT_cl _)
          rw [hps]
          simp [b_Signs_part, sg, dT, dTs] at e1 e2' f ⊢
          simp [e1, e2', hne, f, so_get2]
        cases r with
        | nil => exact leaf fun d r' h => (by cases h)
        | cons d r' =>
          simp only
          by_cases hd : d = 40
          · subst hd
            rw [if_pos rfl]
            have hp' : pot r' < k := by rw [pot_lab hc, pot, if_pos rfl] at hp; omega
            have hlen : r'.length + 1 < F := by rw [hXe] at hX; simp at hX; omega
            have hX2 : X = (p ++ [c, 40]) ++ r' := by rw [hXe]; simp
            have hi2 : i + 1 + 1 = ((p ++ [c, 40]).length : Nat) := by rw [hi]; simp; omega
            have hcall := ih r' (p ++ [c, 40]) (i + 1 + 1) s (g ++ [.lst []]) hX2 hi2 hp'
            rw [pK_rK]
            cases hx : pT k r' with
            | bad r0 =>
              rw [hx] at hcall
              simp only [resS] at hcall
              have f := fin_ex (s := s) (g := g) (h := [.lst []]) (c := sg X i) (X := X) (j := pos X r0) (e := bt (pos X r0)) rfl
              simp only [PK.node, resS]
              simp [b_Signs_part, sg, bt] at e1 e2' hcall f ⊢
              simp [e1, e2', hcall, f]
            | ok t r0 =>
              rw [hx] at hcall
              simp only [resS] at hcall
              have gt := (pT_good k r').1 t r0 hx
              obtain ⟨q, e3, hq, hs⟩ := gt.ex
              have hq' : q.length ≠ 0 := by simpa using hq
              have hX3 : X = (p ++ c :: 40 :: q) ++ r0 := by rw [hXe, e3]; simp
              have hi3 : pos X r0 = ((p ++ c :: 40 :: q).length : Nat) := by rw [hX3]; exact pos_app
              have hlx : r'.length = q.length + r0.length := by rw [e3, List.length_append]
              have hXl : X.length = p.length + 2 + q.length + r0.length := by rw [hX3]; simp; omega
              obtain ⟨j1, j2⟩ := kids_loop F (k := k) (s := s) (g := g) (X := X) (v1 := some (.str [c])) hX (fun x p i g => ih x p i s g) r'.length r0 (p ++ c :: 40 :: q) (pos X r0) [t] F hX3 hi3 (by omega) (by omega) (by have := gt.pot; omega) (by simp; omega)
              change _ = resS s g X ((PK.cons t (rK (pT k) r'.length r0)).node c)
              cases hk : rK (pT k) r'.length r0 with
              | bad r2 =>
                obtain ⟨ρ', h', e5⟩ := j2 _ hk
                have f := fin_ex (s := s) (g := g) (h := h') (c := sg X i) (X := X) (j := pos X r2) (e := bt (pos X r2)) rfl
                simp only [PK.cons, PK.node, resS]
                simp [b_Signs_part, l_Signs_part, sg, bt] at e1 e2' hcall e5 f ⊢
                simp [e1, e2', hcall, e5, f, so_get2, so_set2]
              | ok ts r2 =>
                have e5 := j1 _ _ hk
                have f := fin_so (s := s) (g := g) (h := [.lst ((t :: ts).map dT)]) (c := sg X i) (X := X) (j := pos X r2) (d := dT (.node c (t :: ts))) (dT_cl _)
                simp only [PK.cons, PK.node, resS]
                simp [b_Signs_part, l_Signs_part, sg, dT, dTs_map] at e1 e2' hcall e5 f ⊢
                simp [e1, e2', hcall, e5, f, so_get2, so_set2]
          · rw [if_neg hd]
            exact leaf fun d' r'' h => by cases h; exact hd
      · rw [pT.eq_def]
        simp only
        rw [if_neg hc]
        exact bad fun c' r' h => by cases h; exact hc
end
end Law
namespace Z
mutual
theorem lab_pl : ∀ t : T, labT t → plD (dT t) = true
  | .node c ks, h => by
    rw [labT] at h
    have e : PySem.PyData.strOk (sOf [c]) = true := by
      have : c = 97 ∨ c = 98 ∨ c = 99 ∨ c = 100 ∨ c = 101 ∨ c = 102 := by omega
      rcases this with rfl | rfl | rfl | rfl | rfl | rfl <;> decide +kernel
    rw [dT, plD, plDs, plDs, plDs, plD, plD, labs_pl ks h.2]
    simp [LIM]; try omega
theorem labs_pl : ∀ ts : List T, labTs ts → plDs (dTs ts) = true
  | [], _ => rfl
  | t :: ts, h => by rw [labTs] at h; rw [dTs, plDs, lab_pl t h.1, labs_pl ts h.2]; rfl
end
mutual
theorem plT_lab : ∀ {t : T} {p : List Nat × T}, p ∈ plT t → labT t → labT p.2
  | .node c ks, p, h, o => by
    rw [plT] at h
    rcases List.mem_cons.mp h with rfl | h
    · exact o
    · rw [labT] at o; exact plTs_lab h o.2
theorem plTs_lab : ∀ {i : Nat} {ts : List T} {p : List Nat × T}, p ∈ plTs i ts → labTs ts → labT p.2
  | i, [], p, h, _ => nomatch h
  | i, t :: ts, p, h, o => by
    rw [plTs] at h
    rw [labTs] at o
    rcases List.mem_append.mp h with h | h
    · obtain ⟨q, hq, rfl⟩ := List.mem_map.mp h
      have := plT_lab hq o.1
      exact this
    · exact plTs_lab h o.2
end
end Z
namespace Law
open Z
theorem getD_T {ks : List T} {i : Nat} (h : i < ks.length) : ks.getD i (.node 0 []) = ks[i] := by rw [List.getD_eq_getElem?_getD, List.getElem?_eq_getElem h]; rfl
theorem atI_T {ks : List T} {i : Nat} (h : i < ks.length) : L2.atI (dTs ks) (i : Int) = some (dT ks[i]) := atI_nat (by rw [dTs_map, List.getElem?_map, List.getElem?_eq_getElem h]; rfl)
theorem lenT (ks : List T) : (dTs ks).length = ks.length := by rw [dTs_map]; simp
theorem iLim_nat {n : Nat} (h : n ≤ 1000000) : iLim (n : Int) := by unfold iLim; omega
theorem szs_len (ts : List T) : ts.length ≤ szs ts := by
  induction ts with
  | nil => simp
  | cons t ts ih => have := sz_pos t; rw [szs]; simp only [List.length_cons]; omega
def plD1 (p : List Nat × T) : D := .tup [dPa p.1, dT p.2]
theorem law_places_spec (F : Nat) : ∀ (k : Nat) (t : T) (st : Sto), ht t ≤ k → labT t → ht t ≤ 90 → sz t ≤ 90000 → pr.call F (k + 1) f_law_places [dT t] st = .ok (.loc st.length) (st ++ [.lst ((plT t).map plD1)]) := by
  intro k
  induction k with
  | zero => intro t st h1; have := ht_pos t; omega
  | succ k ih =>
    intro t st h1 ok hh hz
    rw [u_law_places]
    cases t with
    | node c ks =>
    rw [labT] at ok
    rw [ht] at h1 hh
    rw [sz] at hz
    -- the kids' turns
    have turns : ∀ (i : Nat) (us : List T) (A : List (List Nat × T)) (v : Option D) (g : Sto) (w : Wk), w.l = none → (∀ j, us[j]? = ks[i + j]?) → i + us.length = ks.length → A.length + szs us ≤ 95000 → ∃ v' g',
        loopF w (.name 2) (evSs (pr.cl F (k + 1)) F l_law_placesb) ((List.range' i us.length).map fun (j : Nat) => D.int j) [some (dT (.node c ks)), some (.loc st.length), v, none, none] (st ++ .lst (A.map plD1) :: g) =
          .ok .nx [some (dT (.node c ks)), some (.loc st.length), v', none, none] (st ++ .lst ((A ++ plTs i us).map plD1) :: g') := by
      intro i us
      induction us generalizing i with
      | nil => exact fun A v g w hw _ _ _ => ⟨v, g, by rw [plTs, List.append_nil]; exact loop_nil (stays_w hw)⟩
      | cons u us ihu =>
        intro A v g w hw hj hl hA
        rw [szs] at hA
        simp only [List.length_cons] at hl
        have hi : i < ks.length := by omega
        have hu : ks[i] = u := by
          have := hj 0
          rw [Nat.add_zero, List.getElem?_cons_zero, List.getElem?_eq_getElem hi] at this
          exact (Option.some.inj this).symm
        have hmem : u ∈ ks := hu ▸ List.getElem_mem hi
        have e := fun s1 => ih u s1 (by have := hts_le hmem; omega) (labTs_mem ok.2 hmem) (by have := hts_le hmem; omega) (by have := szs_mem hmem; omega)
        have hplen := plT_len u
        have hc : ∀ s1, ev (pr.cl F (k + 1)) c_law_places [some (dT (.node c ks)), some (.loc st.length), some (.int (i : Int)), none, none] s1 = .ok (.loc (s1.length + 1)) (s1 ++ [.lst ((plT u).map plD1), .lst (((plT u).map fun p => (i :: p.1, p.2)).map plD1)]) := fun s1 => by
          have := comp_map (C := pr.cl F (k + 1)) (ρ := [some (dT (.node c ks)), some (.loc st.length), some (.int (i : Int)), none, none]) (st := s1) (e := c_law_placese) (tg := .tup [3, 4]) (own := [3, 4]) (it := .it (.call f_law_places (.cons (.ix (.ix (.var 0) (.cst (.int 1))) (.var 2)) .nil))) (co := .none)
            (l := plT u) (u := plD1) (v := fun p => plD1 (i :: p.1, p.2)) (w := ⟨(plT u).map plD1, some (s1.length, .lst ((plT u).map plD1))⟩) (s1 := s1 ++ [.lst ((plT u).map plD1)]) (by
              rw [dT]; simp [atI_T hi, hu, e]) (by simp [Wk.stays]) rfl (by show _ ≤ 100000; have := szs_mem hmem; omega) (fun p hp => by
                have := (plT_mem hp).2
                have hs := hts_le hmem
                simp [c_law_placese, plD1, dPa, (by omega : p.1.length + 1 ≤ 100000), (by omega : 1 + p.1.length ≤ 100000)])
          show ev _ (.comp _ _ _ _ _) _ _ = _
          rw [this]
          simp [Nat.add_assoc]
        obtain ⟨v', g', e2⟩ := ihu (i + 1) (A ++ (plT u).map fun p => (i :: p.1, p.2)) (some (.int (i : Int))) (g ++ [.lst ((plT u).map plD1), .lst (((plT u).map fun p => (i :: p.1, p.2)).map plD1)]) w hw
          (fun j => by have := hj (j + 1); rw [List.getElem?_cons_succ] at this; rw [this]; congr 1; omega) (by omega) (by rw [List.length_append, List.length_map]; omega)
        refine ⟨v', g', ?_⟩
        rw [plTs, ← List.append_assoc, ← e2, List.length_cons, List.range'_succ, List.map_cons]
        refine loop_cons (stays_w hw) rfl ?_ rfl
        simp [l_law_placesb, hc, hplen, (by omega : A.length + sz u ≤ 100000), -List.map_map, Nat.add_assoc]
    obtain ⟨v', g', e⟩ := turns 0 ks [([], .node c ks)] none [] (rngW 0 ks.length) rfl (fun j => by rw [Nat.zero_add]) (by omega) (by simp; omega)
    have hx : (rngW 0 ks.length).xs = (List.range' 0 ks.length).map fun (j : Nat) => D.int j := by
      rw [← List.range_eq_range']
      show (List.range ks.length).map (fun (k : Nat) => D.int (0 + (k : Int))) = _
      exact List.map_congr_left fun a _ => by rw [Int.zero_add]
    rw [← hx] at e
    have hd : plD1 ([], .node c ks) = .tup [.tup [], dT (.node c ks)] := rfl
    rw [List.map_cons, List.map_nil, hd] at e
    have hcl : (locsC (.lst (([([], T.node c ks)] ++ plTs 0 ks).map plD1))).all (fun k => decide (k < st.length)) = true := by
      show (locsDs _).all _ = true
      rw [pls_locs (plDs_map fun p hp => ?_)]; rfl
      rcases List.mem_append.mp hp with hp | hp
      · rw [List.mem_singleton.mp hp]
        simp [plD1, plD, plDs, dPa_pl, lab_pl (.node c ks) ⟨ok.1, ok.2⟩]
      · simp [plD1, plD, plDs, dPa_pl, lab_pl p.2 (plTs_lab hp ok.2)]
    have hfin := finish_newL st (.lst (([([], T.node c ks)] ++ plTs 0 ks).map plD1) :: g') (j := 0) rfl hcl
    rw [Nat.add_zero] at hfin
    rw [plT]
    rw [dT] at e ⊢
    simp [b_law_places, l_law_places, lenT, iLim_nat (by have := szs_len ks; omega : ks.length ≤ 1000000), e]
    simp at hfin
    rw [hfin]
end Law
namespace Z
def kidT : T → List T
  | .node _ ks => ks
def bdP (m : Nat) (x : List Nat × T) : Prop := 59 < m ∨ 11 < x.1.length ∨ 3 < (kidT x.2).length
instance (m : Nat) (x : List Nat × T) : Decidable (bdP m x) := by unfold bdP; infer_instance
/-- the first place that can't be; m: how many stand ahead -/
def fstB : Nat → List (List Nat × T) → Option (List Nat)
  | _, [] => none
  | m, x :: r => if bdP m x then some x.1 else fstB (m + 1) r
/-- what stands beneath, in turn -/
def vis (q : List (List Nat × T)) : List (List Nat × T) := q.flatMap fun x => (plT x.2).map fun y => (x.1 ++ y.1, y.2)
def kq (p : List Nat) : Nat → List T → List (List Nat × T)
  | _, [] => []
  | i, t :: ts => (p ++ [i], t) :: kq p (i + 1) ts
theorem vis_kq (p : List Nat) : ∀ (i : Nat) (ts : List T), vis (kq p i ts) = (plTs i ts).map fun y => (p ++ y.1, y.2)
  | _, [] => rfl
  | i, t :: ts => by
    have ih := vis_kq p (i + 1) ts
    unfold vis at ih ⊢
    rw [kq, List.flatMap_cons, ih, plTs, List.map_append]
    congr 1
    rw [List.map_map]
    exact List.map_congr_left fun y _ => by simp
theorem vis_app (a b : List (List Nat × T)) : vis (a ++ b) = vis a ++ vis b := by unfold vis; rw [List.flatMap_append]
theorem vis_cons (p : List Nat) (c : Nat) (ks : List T) (q : List (List Nat × T)) : vis ((p, .node c ks) :: q) = (p, .node c ks) :: vis (kq p 0 ks ++ q) := by
  rw [vis_app, vis_kq]
  show (plT (.node c ks)).map _ ++ vis q = _
  rw [plT, List.map_cons, List.append_nil, List.cons_append]
theorem vis_one (t : T) : vis [([], t)] = plT t := by
  unfold vis
  simp
theorem kq_map (p : List Nat) : ∀ (ks : List T) (i : Nat), kq p i ks = (List.range' i ks.length).map fun k => (p ++ [k], ks.getD (k - i) (.node 0 []))
  | [], _ => rfl
  | t :: ts, i => by
    rw [kq, kq_map p ts (i + 1), List.length_cons, List.range'_succ, List.map_cons]
    congr 1
    · simp
    · refine List.map_congr_left fun k hk => ?_
      have h := List.mem_range'_1.mp hk
      obtain ⟨m, rfl⟩ : ∃ m, k = i + 1 + m := ⟨k - (i + 1), by omega⟩
      have e1 : i + 1 + m - (i + 1) = m := by omega
      have e2 : i + 1 + m - i = m + 1 := by omega
      rw [e1, e2, List.getD_cons_succ]
theorem fstB_60 {m : Nat} {x : List Nat × T} {r : List (List Nat × T)} (h : 60 ≤ m) : fstB m (x :: r) = some x.1 := by
  rw [fstB, if_pos (.inl (by omega))]
end Z
namespace Law
open Z
def item (q : List Nat × T) : D := .tup [dPa q.1, dT q.2]
theorem kids_comp (F k : Nat) {st : Sto} {p : List Nat} {c : Nat} {ks : List T} (hp : p.length ≤ 50) (hk : ks.length ≤ 100) {v0 v1 v2 v3 v6 : Option D} :
    ev (pr.cl F k) c_need_tree [v0, v1, v2, v3, some (dPa p), some (dT (.node c ks)), v6] st = .ok (.loc st.length) (st ++ [.lst ((kq p 0 ks).map item)]) := by
  have hl : (dTs ks).length = ks.length := by rw [dTs_map]; simp
  have hi : iLim (ks.length : Int) := by unfold iLim; omega
  rw [kq_map, ← List.range_eq_range', List.map_map]
  refine comp_rng (n := ks.length) ?_ (by show _ ≤ 100000; omega) ?_
  · rw [dT]; simp [hl, hi]
  · intro i hi
    have hx : L2.atI (dTs ks) (i : Int) = some (dT (ks.getD i (.node 0 []))) := atI_nat (by rw [dTs_map, List.getElem?_map, List.getD_eq_getElem?_getD, List.getElem?_eq_getElem hi]; rfl)
    rw [dT]
    simp [c_need_treee, hx, item, dPa, (by omega : p.length ≤ 99999)]
theorem is_node_g (F k : Nat) {c : Nat} {ks : List T} {st : Sto} (h1 : 97 ≤ c ∧ c ≤ 102) : pr.call F (k + 2) f_is_node [dT (.node c ks)] st = .ok (.bl (decide (ks.length ≤ 3))) st := by
  have hl : (dTs ks).length = ks.length := by rw [dTs_map]; simp
  have e := is_label_spec F k (st := st) h1
  rw [u_is_node, dT]
  simp [b_is_node, e, hl]
  exact Int.ofNat_le (n := 3)
def btr (p : List Nat) : Ex := ⟨c_BadTree, some (n_place, dPa p)⟩
theorem need_loop {F k : Nat} (t0 : D) (st : Sto) : ∀ (fuel : Nat) (q : List (List Nat × T)) (many : Nat) (v3 v4 v5 : Option D) (g : Sto),
    61 < fuel + many → many ≤ 60 → q.length ≤ 3 * many + 1 → (∀ x ∈ q, labT x.2 ∧ x.1.length ≤ 12) →
    (fstB many (vis q) = none → ∃ ρ' g', loopW (evT (pr.cl F (k + 2)) (.cmp .ne (.var 1) (.lst .nil))) (evSs (pr.cl F (k + 2)) F l_need_treeb) fuel [some t0, some (.loc st.length), some (.int many), v3, v4, v5, none] (st ++ .lst (q.map item).reverse :: g) = .ok .nx ρ' (st ++ g')) ∧
    (∀ p, fstB many (vis q) = some p → ∃ ρ' g', loopW (evT (pr.cl F (k + 2)) (.cmp .ne (.var 1) (.lst .nil))) (evSs (pr.cl F (k + 2)) F l_need_treeb) fuel [some t0, some (.loc st.length), some (.int many), v3, v4, v5, none] (st ++ .lst (q.map item).reverse :: g) = .exc (btr p) ρ' (st ++ g')) := by
  intro fuel
  induction fuel with
  | zero => intro q many v3 v4 v5 g h h2; omega
  | succ fuel ih =>
    intro q many v3 v4 v5 g hf hm hql hq
    have test : ev (pr.cl F (k + 2)) (.cmp .ne (.var 1) (.lst .nil)) [some t0, some (.loc st.length), some (.int many), v3, v4, v5, none] (st ++ .lst (q.map item).reverse :: g) = .ok (.bl (!q.isEmpty)) (st ++ .lst (q.map item).reverse :: (g ++ [.lst []])) := by
      simp
    cases q with
    | nil => exact ⟨fun _ => ⟨_, _, w_stop test⟩, fun p h => (by cases h)⟩
    | cons x q =>
      obtain ⟨p, t⟩ := x
      cases t with
      | node c ks =>
        obtain ⟨hok, hpl⟩ := hq _ List.mem_cons_self
        simp only at hpl
        rw [labT] at hok
        obtain ⟨hc, hoks⟩ := hok
        have hn := is_node_g F k (c := c) (ks := ks) (st := st ++ .lst (q.map item).reverse :: (g ++ [.lst []])) hc
        rw [vis_cons, fstB]
        simp only [List.length_cons] at hql
        by_cases hb : bdP many (p, .node c ks)
        · rw [if_pos hb]
          refine ⟨fun h => (by cases h), fun p' h => ?_⟩
          cases h
          have hcases : 60 < (many : Int) + 1 ∨ 12 ≤ (p.length : Int) ∨ 3 < (ks.length : Int) := by
            rcases hb with h | h | h
            · exact .inl (by omega)
            · exact .inr (.inl (by have : 11 < p.length := h; omega))
            · exact .inr (.inr (by have : 3 < ks.length := h; omega))
          have e : ∃ ρ', evSs (pr.cl F (k + 2)) F l_need_treeb [some t0, some (.loc st.length), some (.int many), v3, v4, v5, none] (st ++ .lst (((p, T.node c ks) :: q).map item).reverse :: (g ++ [.lst []])) = .exc (btr p) ρ' (st ++ .lst (q.map item).reverse :: (g ++ [.lst []])) := by
            by_cases h1 : 60 < (many : Int) + 1
            · exact ⟨_, by simp [l_need_treeb, item, h1, btr, dPa]; rfl⟩
            · by_cases h2 : 12 ≤ (p.length : Int)
              · exact ⟨_, by simp [l_need_treeb, item, h1, h2, btr, dPa]; rfl⟩
              · have h3 : ¬ ks.length ≤ 3 := by omega
                exact ⟨_, by simp [l_need_treeb, item, h1, h2, hn, h3, btr, dPa]; rfl⟩
          obtain ⟨ρ', e⟩ := e
          refine ⟨ρ', .lst (q.map item).reverse :: (g ++ [.lst []]), ?_⟩
          unfold loopW
          rw [evT, test]
          simp only [List.isEmpty_cons, Bool.not_false, R_bind_ok, bOf_bl, R_sbind_ok, if_true]
          rw [e]
          rfl
        · rw [if_neg hb]
          have h1 : ¬ 60 < (many : Int) + 1 := fun z => hb (.inl (by omega))
          have h2 : ¬ 12 ≤ (p.length : Int) := fun z => hb (.inr (.inl (by show 11 < p.length; omega)))
          have h3 : ks.length ≤ 3 := Nat.le_of_not_lt fun z => hb (.inr (.inr z))
          have hkl : (kq p 0 ks).length = ks.length := by rw [kq_map]; simp
          have hcm := kids_comp F (k + 2) (p := p) (c := c) (ks := ks) (st := st ++ .lst (q.map item).reverse :: (g ++ [.lst []])) (by omega) (by omega) (v0 := some t0) (v1 := some (.loc st.length)) (v2 := some (.int ((many : Int) + 1))) (v3 := v3) (v6 := none)
          simp only [dPa] at hcm
          have hb : evSs (pr.cl F (k + 2)) F l_need_treeb [some t0, some (.loc st.length), some (.int many), v3, v4, v5, none] (st ++ .lst (((p, T.node c ks) :: q).map item).reverse :: (g ++ [.lst []])) = .ok .nx [some t0, some (.loc st.length), some (.int ((many + 1 : Nat) : Int)), some (.loc (st.length + (g.length + 2))), some (dPa p), some (dT (.node c ks)), none] (st ++ .lst ((kq p 0 ks ++ q).map item).reverse :: (g ++ [.lst [], .lst ((kq p 0 ks).map item), .lst ((kq p 0 ks).map item).reverse])) := by
            simp [l_need_treeb, item, hn, h1, h2, h3, dPa]
            simp [hcm, hkl, (by omega : q.length + ks.length ≤ 100000)]
          obtain ⟨i1, i2⟩ := ih (kq p 0 ks ++ q) (many + 1) (some (.loc (st.length + (g.length + 2)))) (some (dPa p)) (some (dT (.node c ks))) (g ++ [.lst [], .lst ((kq p 0 ks).map item), .lst ((kq p 0 ks).map item).reverse])
            (by omega) (by omega) (by rw [List.length_append, hkl]; omega)
            (by
              intro x hx
              rcases List.mem_append.mp hx with hx | hx
              · rw [kq_map] at hx
                obtain ⟨i, hi, rfl⟩ := List.mem_map.mp hx
                have hi := List.mem_range'_1.mp hi
                refine ⟨?_, by simp; omega⟩
                simp only [Nat.sub_zero]
                rw [getD_T (by omega)]
                exact labTs_mem hoks (List.getElem_mem _)
              · exact hq _ (List.mem_cons_of_mem _ hx))
          refine ⟨fun h => ?_, fun p' h => ?_⟩
          · obtain ⟨ρ', g', e⟩ := i1 h
            exact ⟨ρ', g', w_turn test hb e⟩
          · obtain ⟨ρ', g', e⟩ := i2 p' h
            exact ⟨ρ', g', w_turn test hb e⟩
theorem fin_exn {st g : Sto} {e : Ex} (he : exC e = true) : finish st (.exc e (st ++ g)) = .exc e st := by
  show (if exC e = true ∧ OldOk st (st ++ g) then R.exc e ((st ++ g).take st.length) else _) = _
  rw [if_pos ⟨he, oldOk_app st g⟩, List.take_left' rfl]
theorem btr_ex (p : List Nat) : exC (btr p) = true := by
  show clD 0 (dPa p) = true
  exact pl_cl (dPa_pl p)
def ndR (t : T) (st : Sto) : R D := match fstB 0 (plT t) with
  | none => .ok .non st
  | some p => .exc (btr p) st
theorem need_tree_g (F k : Nat) {t : T} {st : Sto} (hF : 61 < F) (ok : labT t) : pr.call F (k + 3) f_need_tree [dT t] st = ndR t st := by
  obtain ⟨i1, i2⟩ := need_loop (F := F) (k := k) (dT t) st F [([], t)] 0 none none none [] (by omega) (by omega) (by simp) (by
      intro x hx
      simp only [List.mem_cons, List.not_mem_nil, or_false] at hx
      subst hx; exact ⟨ok, by simp⟩)
  rw [vis_one] at i1 i2
  unfold ndR
  cases h : fstB 0 (plT t) with
  | none =>
    obtain ⟨ρ', g', e⟩ := i1 h
    have e : loopW (evT (pr.cl F (k + 2)) (.cmp .ne (.var 1) (.lst .nil))) (evSs (pr.cl F (k + 2)) F l_need_treeb) F [some (dT t), some (.loc st.length), some (.int 0), none, none, none, none] (st ++ [.lst [.tup [.tup [], dT t]]]) = .ok .nx ρ' (st ++ g') := e
    rw [u_need_tree]
    simp [b_need_tree, l_need_tree, e]
  | some p =>
    obtain ⟨ρ', g', e⟩ := i2 p h
    have e : loopW (evT (pr.cl F (k + 2)) (.cmp .ne (.var 1) (.lst .nil))) (evSs (pr.cl F (k + 2)) F l_need_treeb) F [some (dT t), some (.loc st.length), some (.int 0), none, none, none, none] (st ++ [.lst [.tup [.tup [], dT t]]]) = .exc (btr p) ρ' (st ++ g') := e
    rw [u_need_tree]
    simp [b_need_tree, l_need_tree, e]
    exact fin_exn (btr_ex p)
end Law
namespace Law
open Z
section
variable (F k : Nat) {s : Sto} {X : Tx}
theorem init_spec : pr.call F (k + 1) f_Signs_init [.loc s.length, .str X, .str [116, 114, 101, 101]] (s ++ [.ins 0 []]) = .ok .non (s ++ [sg X 0]) := by
  have f := fin_so0 (s := s) (g := []) (c := .ins 0 []) (X := X) (j := 0) (d := .non) rfl
  rw [u_Signs_init]
  simp [b_Signs_init, sg, putF'] at f ⊢
  simp [f]
/-- what reading a text comes to -/
def rdE (X : Tx) : PR → Except Ex T
  | .bad r => .error (bt (pos X r))
  | .ok t r => if r = [] then .ok t else .error (bt (pos X r))
theorem whole_spec (hX : X.length ≤ 1000) (hF : 1100 < F) (hp : pot X < k) : ∃ j, pr.call F (k + 3) f_Signs_whole [.loc s.length] (s ++ [sg X 0]) = match rdE X (pT k X) with
    | .ok t => .ok (dT t) (s ++ [sg X j])
    | .error e => .exc e (s ++ [sg X j]) := by
  have e := part_spec F hX hF k X [] 0 s [] rfl rfl hp
  have hXl : X.length ≤ 100000 := by omega
  cases hx : pT k X with
  | bad r =>
    rw [hx] at e
    simp only [resS] at e
    refine ⟨pos X r, ?_⟩
    have f := fin_ex0 (s := s) (g := []) (c := sg X 0) (X := X) (j := pos X r) (e := bt (pos X r)) rfl
    rw [u_Signs_whole]
    simp only [rdE]
    simp [b_Signs_whole, sg, bt] at e f ⊢
    simp [e, f]
  | ok t r =>
    rw [hx] at e
    simp only [resS] at e
    refine ⟨pos X r, ?_⟩
    simp only [rdE]
    by_cases hr : r = []
    · subst hr
      have hl : ¬ pos X [] < (X.length : Int) := by simp [pos]
      have f := fin_so0 (s := s) (g := []) (c := sg X 0) (X := X) (j := pos X []) (d := dT t) (dT_cl t)
      rw [u_Signs_whole, if_pos rfl]
      simp [b_Signs_whole, sg] at e f ⊢
      simp [e, f, hXl, hl]
    · have hl : pos X r < (X.length : Int) := by
        unfold pos
        have : r.length ≠ 0 := by simpa using hr
        omega
      have f := fin_ex0 (s := s) (g := []) (c := sg X 0) (X := X) (j := pos X r) (e := bt (pos X r)) rfl
      rw [u_Signs_whole, if_neg hr]
      simp [b_Signs_whole, sg, bt] at e f ⊢
      simp [e, f, hXl, hl]
def rdF (x : Except Ex T) : Except Ex T := match x with
  | .ok t => (match fstB 0 (plT t) with | none => .ok t | some p => .error (btr p))
  | .error e => .error e
theorem read_spec (hX : X.length ≤ 1000) (hF : 1100 < F) (hp : pot X < k) : pr.call F (k + 4) f_read [.str X] s = match rdF (rdE X (pT k X)) with
    | .ok t => .ok (dT t) s
    | .error e => .exc e s := by
  obtain ⟨j, e⟩ := whole_spec F k (s := s) hX hF hp
  have e0 := init_spec F (k + 2) (s := s) (X := X)
  rw [u_read]
  cases hx : pT k X with
  | bad r =>
    rw [hx] at e
    simp only [rdE, rdF] at e ⊢
    have f := fin_exn (st := s) (g := [sg X j]) (e := bt (pos X r)) rfl
    simp [b_read, sg] at e0 e f ⊢
    simp [e0, e, f]
  | ok t r =>
    rw [hx] at e
    have g := (pT_good k X).1 t r hx
    simp only [rdE] at e ⊢
    by_cases hr : r = []
    · rw [if_pos hr] at e ⊢
      simp only [rdF] at e ⊢
      have hn := need_tree_g F k (t := t) (st := s ++ [sg X j]) (by omega) g.lab
      unfold ndR at hn
      cases hf : fstB 0 (plT t) with
      | none =>
        rw [hf] at hn
        simp only at hn ⊢
        simp [b_read, sg] at e0 e hn ⊢
        simp [e0, e, hn]
        exact finish_new _ _ _ (dT_cl t)
      | some p =>
        rw [hf] at hn
        simp only at hn ⊢
        have f := fin_exn (st := s) (g := [sg X j]) (btr_ex p)
        simp [b_read, sg] at e0 e hn f ⊢
        simp [e0, e, hn, f]
    · rw [if_neg hr] at e ⊢
      simp only [rdF] at e ⊢
      have f := fin_exn (st := s) (g := [sg X j]) (e := bt (pos X r)) rfl
      simp [b_read, sg] at e0 e f ⊢
      simp [e0, e, f]
end
/-- .. as it is told -/
def tlD : Except Ex T → D
  | .ok t => dT t
  | .error e => (match pr.tw e.c, e.f with
    | some (w, _), some (_, d) => .tup [.str w, d]
    | _, _ => .non)
theorem tl_bt (i : Int) : tlD (.error (bt i)) = .tup [.str [66, 97, 100, 84, 101, 120, 116], .int i] := rfl
theorem tl_btr (p : List Nat) : tlD (.error (btr p)) = .tup [.str [66, 97, 100, 84, 114, 101, 101], dPa p] := rfl
theorem told_read (F k : Nat) {X : Tx} {ρ : Env} {s : Sto} {n : Nat} (hρ : ρ[n]? = some (some (.str X))) (hX : X.length ≤ 1000) (hF : 1100 < F) (hp : pot X < k) : ev (pr.cl F (k + 4)) (.told (.call f_read (.cons (.var n) .nil))) ρ s = .ok (tlD (rdF (rdE X (pT k X)))) s := by
  have e := read_spec F k (s := s) hX hF hp
  have hv : ev (pr.cl F (k + 4)) (.call f_read (.cons (.var n) .nil)) ρ s = pr.call F (k + 4) f_read [.str X] s := by
    simp [hρ]
  rw [x_told, hv, e]
  cases hx : pT k X with
  | bad r => rfl
  | ok t r =>
    simp only [rdE]
    by_cases hr : r = []
    · rw [if_pos hr]
      simp only [rdF]
      cases hf : fstB 0 (plT t) with
      | none => rfl
      | some p => rfl
    · rw [if_neg hr]; rfl
/-! ### the law's own reader -/
theorem law_turns (F k : Nat) {X : Tx} {v3 v4 : Option D} (all : List (List Nat × T)) (st g : Sto) : ∀ (l : List (List Nat × T)) (i : Nat) (v : Option D) (w : Wk), w.l = none → all.drop i = l →
    (fstB i l = none → ∃ v', loopF w (.name 2) (evSs (pr.cl F k) F l_law_readb) ((List.range' i l.length).map fun (j : Nat) => D.int j) [some (.str X), some (.loc st.length), v, v3, v4] (st ++ .lst (all.map plD1) :: g) = .ok .nx [some (.str X), some (.loc st.length), v', v3, v4] (st ++ .lst (all.map plD1) :: g)) ∧
    (∀ p, fstB i l = some p → ∃ ρ', loopF w (.name 2) (evSs (pr.cl F k) F l_law_readb) ((List.range' i l.length).map fun (j : Nat) => D.int j) [some (.str X), some (.loc st.length), v, v3, v4] (st ++ .lst (all.map plD1) :: g) = .ok (.rt (tlD (.error (btr p)))) ρ' (st ++ .lst (all.map plD1) :: g)) := by
  intro l
  induction l with
  | nil => intro i v w hw _; exact ⟨fun _ => ⟨v, loop_nil (stays_w hw)⟩, fun p h => (by cases h)⟩
  | cons x l ih =>
    intro i v w hw hd
    have hx : all[i]? = some x := by
      have := congrArg (·[0]?) hd
      simpa [List.getElem?_drop] using this
    have hat : L2.atI (all.map plD1) (i : Int) = some (plD1 x) := atI_nat (by rw [List.getElem?_map, hx]; rfl)
    have hd2 : all.drop (i + 1) = l := by
      rw [← List.drop_drop, hd]; rfl
    rw [fstB]
    obtain ⟨p, t⟩ := x
    cases t with
    | node c ks =>
    have lk : (dTs ks).length = ks.length := lenT ks
    by_cases hb : bdP i (p, .node c ks)
    · rw [if_pos hb]
      refine ⟨fun h => (by cases h), fun p' h => ?_⟩
      cases h
      have : ∃ ρ', evSs (pr.cl F k) F l_law_readb [some (.str X), some (.loc st.length), some (.int i), v3, v4] (st ++ .lst (all.map plD1) :: g) = .ok (.rt (tlD (.error (btr p)))) ρ' (st ++ .lst (all.map plD1) :: g) := by
        rw [tl_btr]
        by_cases h1 : 59 < (i : Int)
        · exact ⟨_, by simp [l_law_readb, hat, plD1, h1, dPa]; rfl⟩
        · by_cases h2 : 11 < (p.length : Int)
          · exact ⟨_, by simp [l_law_readb, hat, plD1, h1, h2, dPa]; rfl⟩
          · have h3 : 3 < (ks.length : Int) := by
              rcases hb with h | h | h
              · exact absurd h (by omega)
              · exact absurd (show 11 < p.length from h) (by omega)
              · have : 3 < ks.length := h
                omega
            exact ⟨_, by simp [l_law_readb, hat, plD1, h1, h2, dT, lk, h3, dPa]; rfl⟩
      obtain ⟨ρ', e⟩ := this
      refine ⟨ρ', ?_⟩
      rw [List.length_cons, List.range'_succ, List.map_cons]
      unfold loopF
      rw [if_pos (stays_w hw)]
      simp only [asgT]
      show (evSs (pr.cl F k) F l_law_readb [some (.str X), some (.loc st.length), some (.int i), v3, v4] (st ++ .lst (all.map plD1) :: g)).turn _ = _
      rw [e]; rfl
    · rw [if_neg hb]
      have h1 : ¬ 59 < (i : Int) := fun z => hb (.inl (by omega))
      have h2 : ¬ 11 < (p.length : Int) := fun z => hb (.inr (.inl (by show 11 < p.length; omega)))
      have h3 : ¬ 3 < (ks.length : Int) := fun z => hb (.inr (.inr (by show 3 < ks.length; omega)))
      have e : evSs (pr.cl F k) F l_law_readb [some (.str X), some (.loc st.length), some (.int i), v3, v4] (st ++ .lst (all.map plD1) :: g) = .ok .nx [some (.str X), some (.loc st.length), some (.int i), v3, v4] (st ++ .lst (all.map plD1) :: g) := by
        simp [l_law_readb, hat, plD1, h1, h2, dT, lk, h3, dPa]
      obtain ⟨i1, i2⟩ := ih (i + 1) (some (.int i)) w hw hd2
      rw [List.length_cons, List.range'_succ, List.map_cons]
      refine ⟨fun h => ?_, fun p' h => ?_⟩
      · obtain ⟨v', e2⟩ := i1 h
        exact ⟨v', loop_cons (stays_w hw) rfl e e2⟩
      · obtain ⟨ρ', e2⟩ := i2 p' h
        exact ⟨ρ', loop_cons (stays_w hw) rfl e e2⟩
theorem law_read_spec (F k j : Nat) {X : Tx} {s : Sto} (hX : X.length ≤ 1000) (hF : 1100 < F) (hp : pot X < k) (hk : k ≤ 60) (hj : 1 ≤ j) : pr.call F (k + j + 1) f_law_read [.str X] s = .ok (tlD (rdF (rdE X (pT k X)))) s := by
  have e := law_part_spec F (X := X) j hX hF k X [] 0 s rfl rfl hp
  have hXl : X.length ≤ 100000 := by omega
  rw [u_law_read]
  cases hx : pT k X with
  | bad r =>
    rw [hx] at e
    simp only [resD, rdE, rdF, tl_bt] at e ⊢
    obtain ⟨p, hr⟩ := (pT_good k X).2 r hx
    have hps : ¬ (X.length : Int) < pos X r := by unfold pos; omega
    simp [b_law_read, e, hXl, hps]
  | ok t r =>
    rw [hx] at e
    have g := (pT_good k X).1 t r hx
    have hne := dT_ne t
    simp only [resD, rdE] at e ⊢
    by_cases hr : r = []
    · subst hr
      rw [if_pos rfl]
      have hl : ¬ pos X [] < (X.length : Int) := by simp [pos]
      have hh := g.ht
      obtain ⟨q, hq, _, hsz⟩ := g.ex
      have hsz : sz t ≤ 1000 := by rw [hq] at hX; simp at hX; omega
      have epl := fun s1 => law_places_spec F (k + j - 1) t s1 (by omega) g.lab (by omega) (by omega)
      rw [show k + j - 1 + 1 = k + j by omega] at epl
      have hlen := plT_len t
      have hx : (rngW 0 (plT t).length).xs = (List.range' 0 (plT t).length).map fun (j : Nat) => D.int j := by
        rw [← List.range_eq_range']
        show (List.range (plT t).length).map (fun (k : Nat) => D.int (0 + (k : Int))) = _
        exact List.map_congr_left fun a _ => by rw [Int.zero_add]
      obtain ⟨i1, i2⟩ := law_turns F (k + j) (X := X) (v3 := some (dT t)) (v4 := some (.int (pos X []))) (plT t) s [] (plT t) 0 none (rngW 0 (plT t).length) rfl rfl
      rw [← hx] at i1 i2
      have hi : iLim ((plT t).length : Int) := iLim_nat (by omega)
      simp only [rdF]
      cases hf : fstB 0 (plT t) with
      | none =>
        obtain ⟨v', e2⟩ := i1 hf
        show _ = R.ok (dT t) s
        simp [b_law_read, l_law_read, e, hXl, hl, hne, epl, hi] at e2 ⊢
        simp [e2]
        exact finish_new _ _ _ (dT_cl t)
      | some p =>
        obtain ⟨ρ', e2⟩ := i2 p hf
        simp only [tl_btr] at e2 ⊢
        simp [b_law_read, l_law_read, e, hXl, hl, hne, epl, hi] at e2 ⊢
        simp [e2]
        exact finish_new _ _ _ (by have := btr_ex p; simpa [clD, clDs, exC, btr] using this)
    · rw [if_neg hr]
      simp only [rdF, tl_bt]
      have hps : ¬ (X.length : Int) < pos X r := by unfold pos; omega
      have hl : pos X r < (X.length : Int) := by
        unfold pos
        have : r.length ≠ 0 := by simpa using hr
        omega
      simp [b_law_read, e, hXl, hps, hne, hl]
end Law
namespace Z
theorem pot_lip {a b : Tx} {d : Nat} (h : pot a ≤ pot b + d) : ∀ x : Tx, pot (x ++ a) ≤ pot (x ++ b) + d
  | [] => h
  | c :: x => by
    have ih := pot_lip h x
    rw [List.cons_append, List.cons_append, pot, pot]
    split
    · omega
    · split <;> omega
theorem pot_seg1 (b : Tx) : ∀ m : Tx, pot (m ++ b) ≤ pot b + m.length
  | [] => Nat.le_refl _
  | c :: m => by
    have ih := pot_seg1 b m
    rw [List.cons_append, pot, List.length_cons]
    split
    · omega
    · split <;> omega
theorem pot_seg2 (b : Tx) : ∀ m : Tx, pot b ≤ pot (m ++ b) + m.length
  | [] => Nat.le_refl _
  | c :: m => by
    have ih := pot_seg2 b m
    rw [List.cons_append, pot, List.length_cons]
    split
    · omega
    · split <;> omega
theorem pot_repl (a m m' b : Tx) : pot (a ++ (m' ++ b)) ≤ pot (a ++ (m ++ b)) + (m.length + m'.length) :=
  pot_lip (by have := pot_seg1 b m'; have := pot_seg2 b m; omega) a
theorem pot_take : ∀ (n : Nat) (x : Tx), pot (x.take n) ≤ pot x
  | 0, x => by rw [List.take_zero, pot]; exact Nat.zero_le _
  | n + 1, [] => Nat.le_refl _
  | n + 1, c :: x => by
    have ih := pot_take n x
    rw [List.take_succ_cons, pot, pot]
    split
    · omega
    · split <;> omega
theorem pot_one {c : Nat} {r : Tx} (h : c ≠ 40) (h2 : c ≠ 41) : pot (c :: r) = pot r := by rw [pot, if_neg h, if_neg h2]
mutual
theorem tx_pot : ∀ (t : T) (r : Tx), okT t → pot (tx t ++ r) ≤ max (ht t - 1) (pot r)
  | .node c ks, r, ok => by
    rw [okT] at ok
    obtain ⟨hc, _, hk⟩ := ok
    rw [tx, ht]
    have h0 := txs_pot ks r
    cases ks with
    | nil =>
      show pot (c :: r) ≤ _
      rw [pot_lab hc]; exact Nat.le_max_right _ _
    | cons t ts =>
      have h := h0 (by simp) hk
      have e : (if (t :: ts).isEmpty = true then [c] else c :: 40 :: (joinT [44] (txs (t :: ts)) ++ [41])) ++ r = c :: 40 :: (joinT [44] (txs (t :: ts)) ++ 41 :: r) := by simp
      rw [e, pot_lab hc]
      show pot (40 :: _) ≤ _
      rw [pot, if_pos rfl]
      have := ht_pos t
      have : ht t ≤ hts (t :: ts) := by rw [hts]; exact Nat.le_max_left _ _
      have h1 := Nat.le_max_left (1 + hts (t :: ts) - 1) (pot r)
      have h2 := Nat.le_max_right (1 + hts (t :: ts) - 1) (pot r)
      rcases Nat.le_total (hts (t :: ts) - 1) (pot r - 1) with z | z
      · rw [Nat.max_eq_right z] at h; omega
      · rw [Nat.max_eq_left z] at h; omega
theorem txs_pot : ∀ (ts : List T) (r : Tx), ts ≠ [] → okTs ts → pot (joinT [44] (txs ts) ++ 41 :: r) ≤ max (hts ts - 1) (pot r - 1)
  | [], _, h, _ => absurd rfl h
  | [t], r, _, ok => by
    rw [okTs] at ok
    have h := tx_pot t (41 :: r) ok.1
    have e : joinT [44] (txs [t]) = tx t := rfl
    rw [e, hts, hts, Nat.max_zero]
    rw [show pot (41 :: r) = pot r - 1 by rw [pot, if_neg (by decide), if_pos rfl]] at h
    exact h
  | t :: u :: us, r, _, ok => by
    rw [okTs] at ok
    have ih := txs_pot (u :: us) r (by simp) ok.2
    have h := tx_pot t (44 :: (joinT [44] (txs (u :: us)) ++ 41 :: r)) ok.1
    rw [pot_one (by decide) (by decide)] at h
    have e : joinT [44] (txs (t :: u :: us)) ++ 41 :: r = tx t ++ 44 :: (joinT [44] (txs (u :: us)) ++ 41 :: r) := by
      show (tx t ++ [44] ++ joinT [44] (txs (u :: us))) ++ 41 :: r = _
      simp
    rw [e, hts]
    have h1 := Nat.le_max_left (ht t) (hts (u :: us))
    have h2 := Nat.le_max_right (ht t) (hts (u :: us))
    refine Nat.le_trans h (Nat.max_le.mpr ⟨Nat.le_trans (by omega) (Nat.le_max_left _ _), Nat.le_trans ih (Nat.max_le.mpr ⟨Nat.le_trans (by omega) (Nat.le_max_left _ _), Nat.le_max_right _ _⟩)⟩)
end
mutual
theorem ht_at : ∀ t : T, ∃ y ∈ plT t, y.1.length + 1 = ht t
  | .node c [] => ⟨_, by rw [plT]; exact List.mem_cons_self, by rw [ht, hts]; rfl⟩
  | .node c (t :: ts) => by
    obtain ⟨y, h1, h2⟩ := hts_at 0 (t :: ts) (by simp)
    exact ⟨y, by rw [plT]; exact List.mem_cons_of_mem _ h1, by rw [ht]; omega⟩
theorem hts_at : ∀ (i : Nat) (ts : List T), ts ≠ [] → ∃ y ∈ plTs i ts, y.1.length = hts ts
  | _, [], h => absurd rfl h
  | i, [t], _ => by
    obtain ⟨y, h1, h2⟩ := ht_at t
    refine ⟨(i :: y.1, y.2), by rw [plTs]; exact List.mem_append_left _ (List.mem_map_of_mem h1), ?_⟩
    rw [hts, hts, Nat.max_zero]; simpa using h2
  | i, t :: u :: us, _ => by
    rcases Nat.le_total (hts (u :: us)) (ht t) with z | z
    · obtain ⟨y, h1, h2⟩ := ht_at t
      refine ⟨(i :: y.1, y.2), by rw [plTs]; exact List.mem_append_left _ (List.mem_map_of_mem h1), ?_⟩
      rw [hts, Nat.max_eq_left z]; simpa using h2
    · obtain ⟨y, h1, h2⟩ := hts_at (i + 1) (u :: us) (by simp)
      refine ⟨y, by rw [plTs]; exact List.mem_append_right _ h1, ?_⟩
      rw [hts, Nat.max_eq_right z]; exact h2
end
theorem fstB_none : ∀ {l : List (List Nat × T)} {m : Nat}, fstB m l = none → ∀ y ∈ l, y.1.length ≤ 11
  | [], _, _, _, hy => nomatch hy
  | x :: l, m, h, y, hy => by
    rw [fstB] at h
    split at h
    · cases h
    · rename_i hb
      rcases List.mem_cons.mp hy with rfl | hy
      · exact Nat.le_of_not_lt fun z => hb (.inr (.inl z))
      · exact fstB_none h y hy
theorem fstB_some : ∀ {l : List (List Nat × T)} {m : Nat} {p : List Nat}, fstB m l = some p → ∃ y ∈ l, p = y.1
  | [], _, _, h => nomatch h
  | x :: l, m, p, h => by
    rw [fstB] at h
    split at h
    · cases h; exact ⟨x, List.mem_cons_self, rfl⟩
    · obtain ⟨y, h1, h2⟩ := fstB_some h
      exact ⟨y, List.mem_cons_of_mem _ h1, h2⟩
theorem sizD_Pa (p : List Nat) : sizD (dPa p) ≤ 1 + 2 * p.length := by
  rw [dPa, sizD]
  have : sizDs (p.map fun (i : Nat) => D.int i) ≤ 2 * p.length := by
    induction p with
    | nil => simp [sizDs]
    | cons x p ih => simp only [List.map_cons, sizDs, sizD, List.length_cons]; omega
  omega
end Z
namespace Law
open Z
/-- what is told can be held beside itself -/
theorem tl_ok (k : Nat) {X : Tx} (hX : X.length ≤ 1000) (hk : k ≤ 100) : depD (tlD (rdF (rdE X (pT k X)))) ≤ 30 ∧ purD (tlD (rdF (rdE X (pT k X)))) = true ∧ sizD (tlD (rdF (rdE X (pT k X)))) ≤ 1000000 := by
  have hb : ∀ i, depD (tlD (.error (bt i))) ≤ 30 ∧ purD (tlD (.error (bt i))) = true ∧ sizD (tlD (.error (bt i))) ≤ 1000000 := fun i => by
    rw [tl_bt]; simp [depD, depDs, purD, purDs, sizD, sizDs]
  cases hx : pT k X with
  | bad r => exact hb _
  | ok t r =>
    have g := (pT_good k X).1 t r hx
    obtain ⟨q, hq, _, hsz⟩ := g.ex
    have hsz : sz t ≤ 1000 := by rw [hq] at hX; simp at hX; omega
    simp only [rdE]
    by_cases hr : r = []
    · rw [if_pos hr]
      simp only [rdF]
      cases hf : fstB 0 (plT t) with
      | none =>
        show depD (dT t) ≤ 30 ∧ purD (dT t) = true ∧ sizD (dT t) ≤ 1000000
        obtain ⟨y, h1, h2⟩ := ht_at t
        have h3 := fstB_none hf y h1
        refine ⟨by have := dT_dep t; omega, pl_pur (lab_pl t g.lab), by have := sizD_T t; omega⟩
      | some p =>
        obtain ⟨y, h1, rfl⟩ := fstB_some hf
        have h2 := (plT_mem h1).2
        have h3 := g.ht
        have hs := sizD_Pa y.1
        have hd := dPa_dep y.1
        have hp := pl_pur (dPa_pl y.1)
        rw [tl_btr]
        refine ⟨?_, ?_, ?_⟩
        · simp only [depD, depDs]; omega
        · simp [purD, purDs, hp]
        · simp only [sizD, sizDs]; omega
    · rw [if_neg hr]; exact hb _
end Law
namespace Law
open Z
theorem law_text_T (F : Nat) : ∀ (k : Nat) (t : T) (st : Sto), ht t ≤ k → sz t ≤ 1000 → okT t → pr.call F (k + 1) f_law_text [dT t] st = .ok (.str (tx t)) st := by
  intro k
  induction k with
  | zero => intro t st h; have := ht_pos t; omega
  | succ k ih =>
    intro t st hh hs ok
    rw [u_law_text]
    cases t with
    | node c ks =>
      rw [okT] at ok
      rw [sz] at hs; rw [ht] at hh
      by_cases he : ks = []
      · subst he
        simp [b_law_text, dT, dTs, tx]
      · have hc : ev (pr.cl F (k + 1)) c_law_text [some (dT (.node c ks)), none] st = .ok (.loc st.length) (st ++ [.lst ((txs ks).map D.str)]) := by
          rw [txs_map, List.map_map]
          refine comp_map (u := dT) (w := ⟨ks.map dT, none⟩) (s1 := st) ?_ rfl rfl ?_ fun u hu => ?_
          · simp [dT, dTs_map]
          · have := szs_len ks; show _ ≤ 100000; omega
          · have := ih u st (by have := hts_le hu; omega) (by have := szs_mem hu; omega) (okTs_mem ok.2.2 hu)
            simp [c_law_texte, this]
        have hln : (txs ks).length = ks.length := by rw [txs_map, List.length_map]
        have hsl := szs_len ks
        have hsum := txs_len ks
        have hj : ((txs ks).map List.length).sum + (txs ks).length ≤ 100000 := by omega
        have hz : (joinT [44] (txs ks)).length ≤ 9000 := by have := join_len (txs ks); omega
        have hE : (dTs ks).isEmpty = false := by rw [isE_dTs]; simpa using he
        have hE' : ks.isEmpty = false := by simpa using he
        rw [dT] at hc ⊢
        rw [tx, hE']
        generalize txs ks = ts at hc hj hz ⊢
        have hz2 : 2 + (joinT [44] ts).length ≤ 100000 := by omega
        have hz3 : (joinT [44] ts).length ≤ 99997 := by omega
        simp [b_law_text, hc, hj, hE, hz2, hz3, strsD_map]
/-! ### wide trees -/
theorem wide_spec (F j : Nat) : ∀ (k m : Nat), m < 2 ^ k → m ≤ 1000 → ∃ t, okT t ∧ sz t = max 1 m ∧ ht t ≤ k + 1 ∧ ∀ st, pr.call F (j + k + 1) f_law_wide [.int m] st = .ok (dT t) st := by
  intro k
  induction k with
  | zero =>
    intro m hm _
    have : m = 0 := by simpa using hm
    subst this
    refine ⟨.node 99 [], ⟨by decide, by simp, trivial⟩, by rw [sz, szs]; rfl, by rw [ht, hts]; omega, fun st => ?_⟩
    rw [u_law_wide]; simp [b_law_wide, dT, dTs]
  | succ k ih =>
    intro m hm hm2
    by_cases h2 : m < 2
    · refine ⟨.node 99 [], ⟨by decide, by simp, trivial⟩, by rw [sz, szs]; omega, by rw [ht, hts]; omega, fun st => ?_⟩
      have h2' : (m : Int) < 2 := by omega
      rw [u_law_wide]
      simp [b_law_wide, dT, dTs, h2']
    · have h2' : ¬ (m : Int) < 2 := by omega
      obtain ⟨n, hn, hn3⟩ : ∃ n : Nat, (if (m : Int) - 1 < 3 then (m : Int) - 1 else 3) = (n : Int) ∧ n = min 3 (m - 1) := ⟨min 3 (m - 1), by split <;> omega, rfl⟩
      have hn1 : 1 ≤ n := by omega
      have hn4 : n ≤ 3 := by omega
      let sze : Nat → Nat := fun i => (m - 1) / n + (if i < (m - 1) % n then 1 else 0)
      have hk1 : ∀ i, sze i < 2 ^ k := fun i => by
        have : sze i ≤ m / 2 := by
          show (m - 1) / n + (if i < (m - 1) % n then 1 else 0) ≤ m / 2
          have : n = 1 ∨ n = 2 ∨ n = 3 := by omega
          rcases this with h | h | h
          · have : m = 2 := by omega
            subst h this; simp
          · rw [h]; split <;> omega
          · rw [h]; split <;> omega
        have h3 : m < 2 * 2 ^ k := by rw [Nat.pow_succ] at hm; omega
        omega
      have hs1000 : ∀ i, sze i ≤ 1000 := fun i => by
        show (m - 1) / n + (if i < (m - 1) % n then 1 else 0) ≤ 1000
        have := Nat.div_le_self (m - 1) n
        split <;> omega
      have hc1 : ∀ st, ev (pr.cl F (j + k + 1)) c_law_wide [some (.int (m : Int)), some (.int (n : Int)), none, none, none] st = .ok (.loc st.length) (st ++ [.lst ((List.range n).map fun i => D.int (sze i))]) := fun st => by
        refine comp_rng (n := n) ?_ (by show _ ≤ 100000; omega) ?_
        · have hi : iLim (n : Int) := by unfold iLim; omega
          simp [hi]
        · intro i hi
          have hq : ((m : Int) - 1) / n = (((m - 1) / n : Nat) : Int) := by rw [show (m : Int) - 1 = ((m - 1 : Nat) : Int) by omega]; rfl
          have hr : ((m : Int) - 1) % n = (((m - 1) % n : Nat) : Int) := by rw [show (m : Int) - 1 = ((m - 1 : Nat) : Int) by omega]; rfl
          have hpos : 0 < (n : Int) := by omega
          have hlt : (n : Int) < 1073741824 := by omega
          have hpos' : 0 < n := hn1
          have hlt' : n < 1073741824 := by omega
          simp [c_law_widee, hpos, hlt, hpos', hlt', hq, hr, sze]
          rw [show ((m - 1 : Nat) : Int) % (n : Int) = (((m - 1) % n : Nat) : Int) from rfl]
          generalize (m - 1) % n = r
          by_cases h : i < r
          · rw [if_pos (by omega), if_pos h]; rfl
          · rw [if_neg (by omega), if_neg h]; rfl
      obtain ⟨tr, htr⟩ : ∃ tr : Nat → T, ∀ i, okT (tr i) ∧ sz (tr i) = max 1 (sze i) ∧ ht (tr i) ≤ k + 1 ∧ ∀ st, pr.call F (j + k + 1) f_law_wide [.int (sze i : Nat)] st = .ok (dT (tr i)) st :=
        ⟨fun i => (ih (sze i) (hk1 i) (hs1000 i)).choose, fun i => (ih (sze i) (hk1 i) (hs1000 i)).choose_spec⟩
      have hc2 : ∀ st, ev (pr.cl F (j + k + 1)) c_law_wide2 [some (.int (m : Int)), some (.int (n : Int)), some (.loc st.length), none, none] (st ++ [.lst ((List.range n).map fun i => D.int (sze i))]) = .ok (.loc (st.length + 1)) (st ++ [.lst ((List.range n).map fun i => D.int (sze i)), .lst ((List.range n).map fun i => dT (tr i))]) := fun st => by
        have := comp_map (C := pr.cl F (j + k + 1)) (ρ := [some (.int (m : Int)), some (.int (n : Int)), some (.loc st.length), none, none]) (st := st ++ [.lst ((List.range n).map fun i => D.int (sze i))]) (e := c_law_wide2e) (tg := .name 4) (own := [4]) (it := .it (.var 2)) (co := .none)
          (l := List.range n) (u := fun i => D.int (sze i)) (v := fun i => dT (tr i)) (w := ⟨(List.range n).map fun i => D.int (sze i), some (st.length, .lst ((List.range n).map fun i => D.int (sze i)))⟩) (s1 := st ++ [.lst ((List.range n).map fun i => D.int (sze i))])
          (by simp) (by simp [Wk.stays]) rfl (by rw [List.length_range]; show _ ≤ 100000; omega) (fun i hi => by
            have e := (htr i).2.2.2
            simp [c_law_wide2e, e])
        show ev _ (.comp _ _ _ _ _) _ _ = _
        rw [this]
        simp
      have hks : ∀ st, pr.call F (j + k + 1 + 1) f_law_wide [.int m] st = .ok (dT (.node 99 ((List.range n).map tr))) st := fun st => by
        have e1 := hc1 st
        have e2 := hc2 st
        rw [u_law_wide]
        simp [b_law_wide, h2', hn, e1, e2, dT, dTs_map]
        rw [finish_new]
        · rfl
        · have := dT_cl (.node 99 ((List.range n).map tr))
          rw [dT, dTs_map, List.map_map] at this
          exact this
      refine ⟨.node 99 ((List.range n).map tr), ?_, ?_, ?_, hks⟩
      · have a0 := (htr 0).1
        have a1 := (htr 1).1
        have a2 := (htr 2).1
        have : n = 1 ∨ n = 2 ∨ n = 3 := by omega
        rcases this with h | h | h <;> rw [h]
        · exact ⟨by decide, by simp, a0, trivial⟩
        · exact ⟨by decide, by simp, a0, a1, trivial⟩
        · exact ⟨by decide, by simp, a0, a1, a2, trivial⟩
      · have a0 := (htr 0).2.1
        have a1 := (htr 1).2.1
        have a2 := (htr 2).2.1
        have : n = 1 ∨ n = 2 ∨ n = 3 := by omega
        rcases this with h | h | h
        · have hm' : m = 2 := by omega
          simp only [sze] at a0
          rw [h] at a0 ⊢
          subst hm'
          show sz (.node 99 [tr 0]) = _
          rw [sz, szs, szs, a0]
          simp
        · simp only [sze] at a0 a1
          rw [h] at a0 a1 ⊢
          show sz (.node 99 [tr 0, tr 1]) = _
          rw [sz, szs, szs, szs, a0, a1]
          split <;> split <;> omega
        · simp only [sze] at a0 a1 a2
          rw [h] at a0 a1 a2 ⊢
          show sz (.node 99 [tr 0, tr 1, tr 2]) = _
          rw [sz, szs, szs, szs, szs, a0, a1, a2]
          split <;> split <;> split <;> omega
      · rw [ht]
        have : hts ((List.range n).map tr) ≤ k + 1 := by
          have a0 := (htr 0).2.2.1
          have a1 := (htr 1).2.2.1
          have a2 := (htr 2).2.2.1
          have : n = 1 ∨ n = 2 ∨ n = 3 := by omega
          rcases this with h | h | h <;> rw [h]
          · show hts [tr 0] ≤ _
            simp only [hts]; omega
          · show hts [tr 0, tr 1] ≤ _
            simp only [hts]; omega
          · show hts [tr 0, tr 1, tr 2] ≤ _
            simp only [hts]; omega
        omega
end Law
namespace Law
open Z
theorem take_nat (F k : Nat) (β : Bx) (m : Nat) (h0 : 0 < m) (h1 : m < 1000) :
    ∃ (r : Nat) (β' : Bx), r < m ∧ ∀ rest, pr.call F (k + 1) f_law_take [.loc 0, .int (m : Int)] (bx β rest) = .ok (.int (r : Int)) (bx β' rest) := by
  obtain ⟨r, β', g0, g1, e⟩ := take_spec F k β (m := (m : Int)) (by omega) (by omega)
  obtain ⟨n, rfl⟩ := Int.eq_ofNat_of_zero_le g0
  exact ⟨n, β', by omega, e⟩
theorem cut_mid (X : Tx) (i j : Nat) (hj : i ≤ j) (hi : i ≤ X.length) : cutD X (some (i : Int)) (some (j : Int)) = (X.drop i).take (j - i) := by
  unfold cutD
  rw [HT.sIx_nat, HT.sIx_nat, Nat.min_eq_left hi]
  by_cases h : j ≤ X.length
  · rw [Nat.min_eq_left h]
  · rw [Nat.min_eq_right (by omega), List.take_of_length_le (by rw [List.length_drop]; omega), List.take_of_length_le (by rw [List.length_drop]; omega)]
def sgns : Tx := [97, 98, 99, 100, 101, 102, 40, 41, 44, 103, 65, 32, 63, 46, 48, 45, 10, 40, 41, 104, 105, 106, 107, 108, 109, 110, 111, 112, 113, 114, 115, 116, 117, 118, 119, 120, 121, 122, 49, 50, 51, 52, 53, 54, 55, 56, 57, 33, 35, 36, 38, 39, 42, 43, 47, 58, 59, 60, 61, 62, 64, 66, 67, 68, 69, 70, 71, 72, 73, 74, 75, 76, 77, 78, 79, 80, 81, 82, 83, 84, 85, 86, 87, 88, 89, 90, 91, 93, 94, 95, 96, 123, 124, 125, 126]
theorem take_atI {L : Tx} {r : Nat} (h : r < L.length) : ∃ c, L2.atI L (r : Int) = some c := ⟨L[r], atI_nat (List.getElem?_eq_getElem h)⟩
theorem spoilt_spec (F k : Nat) (β : Bx) {X : Tx} (hX : X.length ≤ 900) : ∃ (Y : Tx) (β' : Bx), Y.length ≤ X.length + 8 ∧ pot Y ≤ pot X + 8 ∧ ∀ rest, pr.call F (k + 2) f_law_spoilt [.loc 0, .str X] (bx β rest) = .ok (.str Y) (bx β' rest) := by
  obtain ⟨dd, β1, hd, e1⟩ := take_nat F k β 5 (by decide) (by decide)
  obtain ⟨pl, β2, hpl, e2⟩ := take_nat F k β1 (X.length + 1) (by omega) (by omega)
  obtain ⟨r2, β3, hr2, e3⟩ := take_nat F k β2 2 (by decide) (by decide)
  obtain ⟨m, hm, hm1, hm2⟩ : ∃ m : Nat, L2.atI [D.int 19, D.int 95] (r2 : Int) = some (.int m) ∧ 0 < m ∧ m ≤ 95 := by
    have : r2 = 0 ∨ r2 = 1 := by omega
    rcases this with rfl | rfl
    · exact ⟨19, by simp, by decide, by decide⟩
    · exact ⟨95, by simp, by decide, by decide⟩
  obtain ⟨rs, β4, hrs, e4⟩ := take_nat F k β3 m hm1 (by omega)
  obtain ⟨r9, β5, hr9, e5⟩ := take_nat F k β4 9 (by decide) (by decide)
  obtain ⟨c, hc⟩ := take_atI (L := sgns) (r := rs) (by show rs < 95; omega)
  have hl2 : ((X.length + 1 : Nat) : Int) = (X.length : Int) + 1 := by omega
  rw [hl2] at e2
  have e1 : ∀ rest, pr.call F (k + 1) f_law_take [.loc 0, .int 5] (bx β rest) = _ := e1
  have e3 : ∀ rest, pr.call F (k + 1) f_law_take [.loc 0, .int 2] (bx β2 rest) = _ := e3
  have e5 : ∀ rest, pr.call F (k + 1) f_law_take [.loc 0, .int 9] (bx β4 rest) = _ := e5
  have hXl : X.length ≤ 100000 := by omega
  have hpl' : pl ≤ X.length := by omega
  have hmin : min pl X.length = pl := Nat.min_eq_left hpl'
  unfold sgns at hc
  have hspl : X = X.take pl ++ X.drop pl := (List.take_append_drop pl X).symm
  have hdl : (X.drop pl).length = X.length - pl := List.length_drop
  have : dd = 0 ∨ dd = 1 ∨ dd = 2 ∨ dd = 3 ∨ dd = 4 := by omega
  rcases this with rfl | rfl | rfl | rfl | rfl
  · refine ⟨X.take pl ++ c :: X.drop pl, β4, by simp; omega, ?_, fun rest => ?_⟩
    · have := pot_repl (X.take pl) [] [c] (X.drop pl)
      rw [List.nil_append, ← hspl] at this
      simp only [List.length_cons, List.length_nil] at this
      exact Nat.le_trans this (by omega)
    · rw [u_law_spoilt]
      have o1 : pl ≤ 99999 := by omega
      have o2 : pl + 1 + (X.length - pl) ≤ 100000 := by omega
      simp [b_law_spoilt, e1, e2, e3, e4, hm, hc, hXl, cut_take, cut_drop, hmin, o1, o2, fin_bx]
  · refine ⟨X.take pl ++ X.drop (pl + 1), β4, by simp; omega, ?_, fun rest => ?_⟩
    · have := pot_repl (X.take pl) ((X.drop pl).take 1) [] (X.drop (pl + 1))
      rw [List.nil_append, show (X.drop pl).take 1 ++ X.drop (pl + 1) = X.drop pl by rw [← List.drop_drop, List.take_append_drop], ← hspl] at this
      have h2 : ((X.drop pl).take 1).length ≤ 1 := by simp; omega
      simp only [List.length_nil] at this
      exact Nat.le_trans this (by omega)
    · rw [u_law_spoilt]
      have hcd : cutD X (some ((pl : Int) + 1)) none = X.drop (pl + 1) := cut_drop X (pl + 1)
      have o1 : pl ≤ 100000 := by omega
      have o2 : pl + (X.length - (pl + 1)) ≤ 100000 := by omega
      simp [b_law_spoilt, e1, e2, e3, e4, hm, hc, hXl, cut_take, hcd, cut_drop, hmin, o1, o2, fin_bx]
  · refine ⟨X.take pl ++ c :: X.drop (pl + 1), β4, by simp; omega, ?_, fun rest => ?_⟩
    · have := pot_repl (X.take pl) ((X.drop pl).take 1) [c] (X.drop (pl + 1))
      rw [show (X.drop pl).take 1 ++ X.drop (pl + 1) = X.drop pl by rw [← List.drop_drop, List.take_append_drop], ← hspl] at this
      have h2 : ((X.drop pl).take 1).length ≤ 1 := by simp; omega
      simp only [List.length_cons, List.length_nil] at this
      exact Nat.le_trans this (by omega)
    · rw [u_law_spoilt]
      have hcd : cutD X (some ((pl : Int) + 1)) none = X.drop (pl + 1) := cut_drop X (pl + 1)
      have o1 : pl ≤ 99999 := by omega
      have o2 : pl + 1 + (X.length - (pl + 1)) ≤ 100000 := by omega
      simp [b_law_spoilt, e1, e2, e3, e4, hm, hc, hXl, cut_take, hcd, cut_drop, hmin, o1, o2, fin_bx]
  · refine ⟨(X.take (pl + r9) ++ X.drop pl).take 600, β5, by simp; omega, ?_, fun rest => ?_⟩
    · refine Nat.le_trans (pot_take _ _) ?_
      have e : X.take (pl + r9) = X.take pl ++ (X.drop pl).take r9 := List.take_add
      have := pot_repl (X.take pl) [] ((X.drop pl).take r9) (X.drop pl)
      rw [List.nil_append, ← hspl] at this
      have h2 : ((X.drop pl).take r9).length ≤ 8 := by simp; omega
      simp only [List.length_nil] at this
      rw [e, List.append_assoc]
      exact Nat.le_trans this (by omega)
    · rw [u_law_spoilt]
      have hcd : cutD X none (some ((pl : Int) + (r9 : Int))) = X.take (pl + r9) := cut_take X (pl + r9)
      have o1 : min (pl + r9) X.length + (X.length - pl) ≤ 100000 := by omega
      have o3 : ∀ z : Tx, cutD z none (some 600) = z.take 600 := fun z => cut_take z 600
      simp [b_law_spoilt, e1, e2, e3, e4, e5, hm, hc, hXl, cut_take, hcd, cut_drop, hmin, o1, o3, fin_bx]
  · refine ⟨X.take pl ++ (((X.drop pl).take 2).reverse ++ X.drop (pl + 2)), β5, by simp; omega, ?_, fun rest => ?_⟩
    · have := pot_repl (X.take pl) ((X.drop pl).take 2) ((X.drop pl).take 2).reverse (X.drop (pl + 2))
      rw [show (X.drop pl).take 2 ++ X.drop (pl + 2) = X.drop pl by rw [← List.drop_drop, List.take_append_drop], ← hspl] at this
      have h2 : ((X.drop pl).take 2).length ≤ 2 := by simp; omega
      rw [List.length_reverse] at this
      exact Nat.le_trans this (by omega)
    · rw [u_law_spoilt]
      have hcd : cutD X (some ((pl : Int) + 2)) none = X.drop (pl + 2) := cut_drop X (pl + 2)
      have hcm : cutD X (some (pl : Int)) (some ((pl : Int) + 2)) = (X.drop pl).take 2 := by have := cut_mid X pl (pl + 2) (by omega) hpl'; rw [show pl + 2 - pl = 2 by omega] at this; exact this
      have o1 : min 2 (X.length - pl) ≤ 100000 := by omega
      have o2 : pl + min 2 (X.length - pl) ≤ 100000 := by omega
      have o3 : pl + min 2 (X.length - pl) + (X.length - (pl + 2)) ≤ 100000 := by omega
      simp [b_law_spoilt, e1, e2, e3, e4, e5, hm, hc, hXl, cut_take, hcd, hcm, cut_drop, hmin, o1, o2, o3, fin_bx]
end Law
namespace Law
open Z
def KMAX : Nat := 57
def FUEL : Nat := 1200
def oddA : List Tx := [[], [32], [97, 40, 41], [97, 40, 98], [97, 40, 98, 44], [97, 40, 98, 44, 41], [40, 97, 41], [97, 98], [97, 40, 98, 41, 99], [97, 40, 98, 41, 41], [97, 32, 98]]
def oddB : List Tx := [[97, 40, 98, 44, 99, 44, 100, 44, 101, 41], [97, 40, 98, 44, 99, 44, 100, 44, 101, 40, 97, 41, 41]]
def oddC : List Tx := [[97, 40, 97, 40, 97, 40, 97, 40, 97, 40, 97, 40, 97, 40, 97, 40, 97, 40, 97, 40, 97, 40, 97, 40, 98, 41, 41, 41, 41, 41, 41, 41, 41, 41, 41, 41, 41], [97, 40, 97, 40, 97, 40, 97, 40, 97, 40, 97, 40, 97, 40, 97, 40, 97, 40, 97, 40, 97, 40, 98, 41, 41, 41, 41, 41, 41, 41, 41, 41, 41, 41], [97, 40, 44, 98, 41]]
def odds : List Tx := oddA ++ oddB ++ oddC
theorem odds_ok : ∀ x ∈ odds, x.length ≤ 870 ∧ pot x ≤ 12 := by decide
structure OkX (c : Nat) (X : Tx) : Prop where
  len : X.length ≤ 870 + 8 * c
  pot : pot X ≤ 12 + 8 * c
theorem change_loop {a0 a1 a2 a3 a5 a7 : Option D} {G : Sto} (h1 : a1 = some (.loc 0)) : ∀ (l : List D) (c : Nat) (X : Tx) (β : Bx) (v : Option D) (w : Wk), w.l = none → c + l.length ≤ 3 → OkX c X → ∃ Y β' v', OkX (c + l.length) Y ∧
    loopF w (.name 6) (evSs (pr.cl FUEL 56) FUEL l_law2b) l [a0, a1, a2, a3, some (.str X), a5, v, a7] (bx β G) = .ok .nx [a0, a1, a2, a3, some (.str Y), a5, v', a7] (bx β' G) := by
  intro l
  induction l with
  | nil => intro c X β v w hw _ ok; exact ⟨X, β, v, ok, loop_nil (stays_w hw)⟩
  | cons x l ih =>
    intro c X β v w hw hl ok
    simp only [List.length_cons] at hl
    obtain ⟨Y, β1, y1, y2, e⟩ := spoilt_spec FUEL 54 β (X := X) (by have := ok.len; omega)
    obtain ⟨Z, β2, v', okZ, e2⟩ := ih (c + 1) Y β1 (some x) w hw (by omega) ⟨by have := ok.len; omega, by have := ok.pot; omega⟩
    refine ⟨Z, β2, v', by rw [List.length_cons, show c + (l.length + 1) = c + 1 + l.length by omega]; exact okZ, ?_⟩
    subst h1
    refine loop_cons (stays_w hw) rfl ?_ e2
    simp [l_law2b, e]
theorem again_loop {a0 a1 a2 a3 a5 a6 : Option D} {X : Tx} (ok : OkX 3 X) (st : Sto) (v : Option D) : ∃ v', loopF (rngW 0 2) (.name 7) (evSs (pr.cl FUEL 56) FUEL l_law3b) (rngW 0 2).xs [a0, a1, a2, a3, some (.str X), a5, a6, v] st = .ok .nx [a0, a1, a2, a3, some (.str X), a5, a6, v'] st := by
  have hl := ok.len
  have hp := ok.pot
  have er := fun s => law_read_spec FUEL 52 3 (X := X) (s := s) (by omega) (by decide) (by omega) (by decide) (by decide)
  have tl := tl_ok 52 (X := X) (by omega) (by decide)
  have et := fun (v : Option D) (s : Sto) => told_read FUEL 52 (X := X) (ρ := [a0, a1, a2, a3, some (.str X), a5, a6, v]) (s := s) (n := 4) rfl (by omega) (by decide) (by omega)
  generalize tlD (rdF (rdE X (pT 52 X))) = d at er tl et
  have ea := fun st => alike_spec FUEL 56 d st (by omega) tl.2.1 tl.2.2
  obtain ⟨ρ', st', e, rfl, v', rfl⟩ := for_rng (n := 2) (tg := .name 7) (b := evSs (pr.cl FUEL 56) FUEL l_law3b) (ρ := [a0, a1, a2, a3, some (.str X), a5, a6, v]) (st := st)
    (fun _ ρ s => s = st ∧ ∃ v, ρ = [a0, a1, a2, a3, some (.str X), a5, a6, v]) (by
      rintro i ρ s hi ⟨rfl, v, rfl⟩
      refine ⟨_, _, _, rfl, .inl ?_, rfl, some (.int i), rfl⟩
      have et := et (some (.int i)) s
      simp [l_law3b, -x_told, et, er, ea]) ⟨rfl, v, rfl⟩
  exact ⟨v', e⟩
theorem okL6 : okL [97, 98, 99, 100, 101, 102] := ⟨by decide, by decide, by simp⟩
theorem mulS (x : Tx) (k : Int) (y : Tx) (st : Sto) (h : x ≠ [] ∧ 2 ≤ k ∧ k ≤ 1000 ∧ x.length ≤ 100) (e : (List.replicate k.toNat x).flatten = y) : binD .mul (.str x) (.int k) st = .ok (.str y) st := by
  subst e
  unfold binD
  simp only
  rw [if_pos h]
theorem law_ev : ∀ ns : List Int, ns.length ≤ 63 → ∃ st, pr.call FUEL KMAX f_law [.fl (ns.map D.int)] [] = .ok (.bl true) st := by
  intro ns hns
  obtain ⟨β0, e0⟩ := begun_spec FUEL 55 hns
  have hi6 : iLim 6 := by unfold iLim; omega
  have hi2 : iLim 2 := by unfold iLim; omega
  let G : Sto := [.lst (oddA.map D.str), .lst (oddB.map D.str), .lst ((oddA ++ oddB).map D.str), .lst (oddC.map D.str), .lst (odds.map D.str)]
  obtain ⟨ρ', st', e4, β3, w3, w4, w5, w6, w7, rfl, rfl⟩ := for_rng (n := 6) (tg := .name 3) (b := evSs (pr.cl FUEL 56) FUEL l_lawb) (ρ := [some (.fl (ns.map D.int)), some (.loc 0), some (.loc 6), none, none, none, none, none]) (st := bx β0 G)
    (fun _ ρ s => ∃ β w3 w4 w5 w6 w7, ρ = [some (.fl (ns.map D.int)), some (.loc 0), some (.loc 6), w3, w4, w5, w6, w7] ∧ s = bx β G)
    (by
      rintro i ρ s hi ⟨β, w3, w4, w5, w6, w7, rfl, rfl⟩
      obtain ⟨t, β1, ok, hh, hs, e1⟩ := tree_spec FUEL 41 okL6 β
      have e1 := e1 G
      have ett := fun s => law_text_T FUEL 55 t s (by omega) (by omega) ok
      obtain ⟨way, β2, hw, e2⟩ := take_nat FUEL 55 β1 6 (by decide) (by decide)
      have e2 : ∀ rest, pr.call FUEL 56 f_law_take [.loc 0, .int 6] (bx β1 rest) = _ := e2
      -- the text
      obtain ⟨X, β5, okX, ex⟩ : ∃ X β5, OkX 0 X ∧ evSs (pr.cl FUEL 56) FUEL l_lawb [some (.fl (ns.map D.int)), some (.loc 0), some (.loc 6), some (.int i), w4, w5, w6, w7] (bx β G) = evSs (pr.cl FUEL 56) FUEL (.cons l_law2 (.cons l_law3 .nil)) [some (.fl (ns.map D.int)), some (.loc 0), some (.loc 6), some (.int i), some (.str X), some (.int way), w6, w7] (bx β5 G) := by
        by_cases h5 : way = 5
        · subst h5
          obtain ⟨r, β4, hr, e3⟩ := take_nat FUEL 55 β2 16 (by decide) (by decide)
          have e3 : ∀ rest, pr.call FUEL 56 f_law_take [.loc 0, .int 16] (bx β2 rest) = _ := e3
          have hr' : r < odds.length := hr
          have hat : L2.atI (odds.map D.str) (r : Int) = some (.str odds[r]) := atI_nat (by rw [List.getElem?_map, List.getElem?_eq_getElem hr']; rfl)
          have hg : G[4]? = some (.lst (odds.map D.str)) := rfl
          have hok := odds_ok odds[r] (List.getElem_mem hr')
          generalize odds[r] = X at hat hok
          clear_value G
          refine ⟨X, β4, ⟨by omega, by omega⟩, ?_⟩
          simp [l_lawb, e1, ett, e2, e3, hg, hat]
        · by_cases h4 : way = 4
          · subst h4
            obtain ⟨r, β4, hr, e3⟩ := take_nat FUEL 55 β2 160 (by decide) (by decide)
            have e3 : ∀ rest, pr.call FUEL 56 f_law_take [.loc 0, .int 160] (bx β2 rest) = _ := e3
            obtain ⟨u, uo, us, uh, ew⟩ := wide_spec FUEL 47 8 (55 + r) (by show _ < 256; omega) (by omega)
            have ew : ∀ st, pr.call FUEL 56 f_law_wide [.int (55 + (r : Int))] st = .ok (dT u) st := fun st => by
              have := ew st
              rwa [show ((55 + r : Nat) : Int) = 55 + (r : Int) by omega] at this
            have eu := fun s => law_text_T FUEL 55 u s (by omega) (by omega) uo
            have hl := tx_len u
            have hp := tx_pot u [] uo
            rw [List.append_nil] at hp
            have hp2 : pot (tx u) ≤ 12 := Nat.le_trans hp (Nat.max_le.mpr ⟨by omega, by rw [pot]; omega⟩)
            clear_value G
            refine ⟨tx u, β4, ⟨by omega, by omega⟩, ?_⟩
            simp [l_lawb, e1, ett, e2, e3, ew, eu]
          · have hl := tx_len t
            have hp := tx_pot t [] ok
            rw [List.append_nil] at hp
            have hp2 : pot (tx t) ≤ 12 := Nat.le_trans hp (Nat.max_le.mpr ⟨by omega, by rw [pot]; omega⟩)
            have h5' : ¬ (way : Int) = 5 := by omega
            have h4' : ¬ (way : Int) = 4 := by omega
            clear_value G
            refine ⟨tx t, β2, ⟨by omega, by omega⟩, ?_⟩
            simp [l_lawb, e1, ett, e2, h5', h4']
      obtain ⟨n, β6, hn, e6⟩ := take_nat FUEL 55 β5 4 (by decide) (by decide)
      have e6 : ∀ rest, pr.call FUEL 56 f_law_take [.loc 0, .int 4] (bx β5 rest) = _ := e6
      obtain ⟨Y, β7, v6, okY, e7⟩ := change_loop (a0 := some (.fl (ns.map D.int))) (a1 := some (.loc 0)) (a2 := some (.loc 6)) (a3 := some (.int i)) (a5 := some (.int way)) (a7 := w7) (G := G) rfl (rngW 0 n).xs 0 X β6 w6 (rngW 0 n) rfl (by rw [rng_len]; omega) okX
      have okY : OkX 3 Y := ⟨by have := okY.len; rw [rng_len] at this; omega, by have := okY.pot; rw [rng_len] at this; omega⟩
      obtain ⟨v7, e8⟩ := again_loop (a0 := some (.fl (ns.map D.int))) (a1 := some (.loc 0)) (a2 := some (.loc 6)) (a3 := some (.int i)) (a5 := some (.int way)) (a6 := v6) okY (bx β7 G) w7
      have hin : iLim (n : Int) := by unfold iLim; omega
      refine ⟨_, [some (.fl (ns.map D.int)), some (.loc 0), some (.loc 6), some (.int i), some (.str Y), some (.int way), v6, v7], bx β7 G, rfl, .inl ?_, β7, _, _, _, _, _, rfl, rfl⟩
      show evSs _ _ l_lawb _ _ = _
      rw [List.set_cons_succ, List.set_cons_succ, List.set_cons_succ, List.set_cons_zero, ex]
      clear_value G
      simp [l_law2, l_law3, e6, hin, e7, hi2, e8]) ⟨β0, none, none, none, none, none, rfl, rfl⟩
  refine ⟨[], ?_⟩
  show pr.call FUEL (56 + 1) f_law _ [] = _
  rw [call_eq pr FUEL 56 (fi := ⟨1, 8, b_law⟩) rfl rfl]
  have eb : evSs (pr.cl FUEL 56) FUEL b_law [some (.fl (ns.map D.int)), none, none, none, none, none, none, none] [] = .ok (.rt (.bl true)) [some (.fl (ns.map D.int)), some (.loc 0), some (.loc 6), w3, w4, w5, w6, w7] (bx β3 G) := by
    refine b_cons (ρ1 := [some (.fl (ns.map D.int)), some (.loc 0), none, none, none, none, none, none]) (s1 := bx β0 []) (by simp [e0]) ?_
    refine b_cons (ρ1 := [some (.fl (ns.map D.int)), some (.loc 0), some (.loc 2), none, none, none, none, none]) (s1 := bx β0 [.lst (oddA.map D.str)]) (by simp [oddA]) ?_
    refine b_cons (ρ1 := [some (.fl (ns.map D.int)), some (.loc 0), some (.loc 4), none, none, none, none, none]) (s1 := bx β0 [.lst (oddA.map D.str), .lst (oddB.map D.str), .lst ((oddA ++ oddB).map D.str)]) (by simp [oddA, oddB]) ?_
    have m1 := fun st => mulS [97, 40] 12 [97, 40, 97, 40, 97, 40, 97, 40, 97, 40, 97, 40, 97, 40, 97, 40, 97, 40, 97, 40, 97, 40, 97, 40] st (by decide) (by decide)
    have m2 := fun st => mulS [41] 12 [41, 41, 41, 41, 41, 41, 41, 41, 41, 41, 41, 41] st (by decide) (by decide)
    have m3 := fun st => mulS [97, 40] 11 [97, 40, 97, 40, 97, 40, 97, 40, 97, 40, 97, 40, 97, 40, 97, 40, 97, 40, 97, 40, 97, 40] st (by decide) (by decide)
    have m4 := fun st => mulS [41] 11 [41, 41, 41, 41, 41, 41, 41, 41, 41, 41, 41] st (by decide) (by decide)
    refine b_cons (ρ1 := [some (.fl (ns.map D.int)), some (.loc 0), some (.loc 6), none, none, none, none, none]) (s1 := bx β0 G) (by simp [oddA, oddB, oddC, odds, G, m1, m2, m3, m4]) ?_
    refine b_cons (ρ1 := [some (.fl (ns.map D.int)), some (.loc 0), some (.loc 6), w3, w4, w5, w6, w7]) (s1 := bx β3 G) ?_ ?_
    · clear_value G
      simp [l_law, hi6, e4]
    · simp
  rw [show ([D.fl (ns.map D.int)].map some ++ List.replicate (8 - 1) none) = [some (.fl (ns.map D.int)), none, none, none, none, none, none, none] from rfl, eb, runB_rt, finish_old (oldOk_nil _) rfl]
  rfl
end Law
/-! ### the IR stands in the row; the end (printed by gen.py) -/
namespace Law
open Z PySem L2
def top (i : Nat) : Stmt := PySem.Challenge.pw_treetellers_k20_texts_of_no_tree.main.body.getD i (.Pass ⟨0, 0, 0, 0⟩)
def cc : CC := ⟨[("law", f_law), ("_law_begun", f_law_begun), ("_law_text", f_law_text), ("_law_tree", f_law_tree), ("_law_take", f_law_take), ("_law_wide", f_law_wide), ("_law_spoilt", f_law_spoilt), ("_law_alike", f_law_alike), ("_law_read", f_law_read), ("read", f_read), ("_law_grown", f_law_grown), ("_law_part", f_law_part), ("_law_places", f_law_places), ("need_tree", f_need_tree), ("is_node", f_is_node), ("is_label", f_is_label)],
  [("Signs", c_Signs)],
  [("ANY", g_ANY), ("DO", g_DO), ("FIGURES", g_FIGURES), ("LABELS", g_LABELS), ("LEAF", g_LEAF), ("MOST_DEEP", g_MOST_DEEP), ("MOST_KIDS", g_MOST_KIDS), ("MOST_PLACES", g_MOST_PLACES)],
  ["bool", "int", "isinstance", "len", "list", "min", "range", "str", "tuple"],
  [("whole", m_whole), ("part", m_part), ("here", m_here), ("take", m_take), ("do", m_do)],
  ["text", "at", "kind"],
  [],
  [("BadTree", (c_BadTree, n_place)), ("BadText", (c_BadText, n_number))], some "_law_told", none⟩
abbrev s_law : Stmt := top 41
abbrev N_law : List Str := ["_law_script", "_law_box", "_law_odd", "_law_turn", "_law_text_here", "_law_way", "_law_change", "_law_again"]
abbrev P_law : List Str := ["_law_script"]
theorem sc_law : FnScope N_law P_law (defScope s_law) := ⟨rfl, rfl, rfl, by decide +kernel, rfl, by decide +kernel, by decide +kernel⟩
theorem ck_law (c : Addr) (q : Str) : chkSs { cc with lam := some (c, q) } N_law (defScope s_law) b_law (defBody s_law) = true := by kernel_rfl
abbrev s_law_begun : Stmt := top 27
abbrev N_law_begun : List Str := ["_law_script", "_law_stirred", "_law_cell"]
abbrev P_law_begun : List Str := ["_law_script"]
theorem sc_law_begun : FnScope N_law_begun P_law_begun (defScope s_law_begun) := ⟨rfl, rfl, rfl, by decide +kernel, rfl, by decide +kernel, by decide +kernel⟩
theorem ck_law_begun : chkSs cc N_law_begun (defScope s_law_begun) b_law_begun (defBody s_law_begun) = true := by decide +kernel
abbrev s_law_text : Stmt := top 36
abbrev N_law_text : List Str := ["_law_tree_here", "_law_kid"]
abbrev P_law_text : List Str := ["_law_tree_here"]
theorem sc_law_text : FnScope N_law_text P_law_text (defScope s_law_text) := ⟨rfl, rfl, rfl, by decide +kernel, rfl, by decide +kernel, by decide +kernel⟩
theorem ck_law_text : chkSs cc N_law_text (defScope s_law_text) b_law_text (defBody s_law_text) = true := by decide +kernel
abbrev s_law_tree : Stmt := top 33
abbrev N_law_tree : List Str := ["_law_box", "_law_letters_here", "_law_most"]
abbrev P_law_tree : List Str := ["_law_box", "_law_letters_here"]
theorem sc_law_tree : FnScope N_law_tree P_law_tree (defScope s_law_tree) := ⟨rfl, rfl, rfl, by decide +kernel, rfl, by decide +kernel, by decide +kernel⟩
theorem ck_law_tree : chkSs cc N_law_tree (defScope s_law_tree) b_law_tree (defBody s_law_tree) = true := by decide +kernel
abbrev s_law_take : Stmt := top 28
abbrev N_law_take : List Str := ["_law_box", "_law_many", "_law_number"]
abbrev P_law_take : List Str := ["_law_box", "_law_many"]
theorem sc_law_take : FnScope N_law_take P_law_take (defScope s_law_take) := ⟨rfl, rfl, rfl, by decide +kernel, rfl, by decide +kernel, by decide +kernel⟩
theorem ck_law_take : chkSs cc N_law_take (defScope s_law_take) b_law_take (defBody s_law_take) = true := by decide +kernel
abbrev s_law_wide : Stmt := top 40
abbrev N_law_wide : List Str := ["_law_many", "_law_kids", "_law_sizes", "_law_k", "_law_size"]
abbrev P_law_wide : List Str := ["_law_many"]
theorem sc_law_wide : FnScope N_law_wide P_law_wide (defScope s_law_wide) := ⟨rfl, rfl, rfl, by decide +kernel, rfl, by decide +kernel, by decide +kernel⟩
theorem ck_law_wide : chkSs cc N_law_wide (defScope s_law_wide) b_law_wide (defBody s_law_wide) = true := by decide +kernel
abbrev s_law_spoilt : Stmt := top 39
abbrev N_law_spoilt : List Str := ["_law_box", "_law_text_here", "_law_deed", "_law_place", "_law_signs", "_law_sign", "_law_end", "_law_two"]
abbrev P_law_spoilt : List Str := ["_law_box", "_law_text_here"]
theorem sc_law_spoilt : FnScope N_law_spoilt P_law_spoilt (defScope s_law_spoilt) := ⟨rfl, rfl, rfl, by decide +kernel, rfl, by decide +kernel, by decide +kernel⟩
theorem ck_law_spoilt : chkSs cc N_law_spoilt (defScope s_law_spoilt) b_law_spoilt (defBody s_law_spoilt) = true := by decide +kernel
abbrev s_law_alike : Stmt := top 29
abbrev N_law_alike : List Str := ["_law_found", "_law_due", "_law_k"]
abbrev P_law_alike : List Str := ["_law_found", "_law_due"]
theorem sc_law_alike : FnScope N_law_alike P_law_alike (defScope s_law_alike) := ⟨rfl, rfl, rfl, by decide +kernel, rfl, by decide +kernel, by decide +kernel⟩
theorem ck_law_alike : chkSs cc N_law_alike (defScope s_law_alike) b_law_alike (defBody s_law_alike) = true := by decide +kernel
abbrev s_law_read : Stmt := top 38
abbrev N_law_read : List Str := ["_law_text_here", "_law_some", "_law_k", "_law_tree_here", "_law_here"]
abbrev P_law_read : List Str := ["_law_text_here"]
theorem sc_law_read : FnScope N_law_read P_law_read (defScope s_law_read) := ⟨rfl, rfl, rfl, by decide +kernel, rfl, by decide +kernel, by decide +kernel⟩
theorem ck_law_read : chkSs cc N_law_read (defScope s_law_read) b_law_read (defBody s_law_read) = true := by decide +kernel
abbrev s_read : Stmt := top 25
abbrev N_read : List Str := ["text", "tree"]
abbrev P_read : List Str := ["text"]
theorem sc_read : FnScope N_read P_read (defScope s_read) := ⟨rfl, rfl, rfl, by decide +kernel, rfl, by decide +kernel, by decide +kernel⟩
theorem ck_read : chkSs cc N_read (defScope s_read) b_read (defBody s_read) = true := by decide +kernel
abbrev s_law_grown : Stmt := top 32
abbrev N_law_grown : List Str := ["_law_box", "_law_letters_here", "_law_left", "_law_deep", "_law_kids", "_law_k"]
abbrev P_law_grown : List Str := ["_law_box", "_law_letters_here", "_law_left", "_law_deep"]
theorem sc_law_grown : FnScope N_law_grown P_law_grown (defScope s_law_grown) := ⟨rfl, rfl, rfl, by decide +kernel, rfl, by decide +kernel, by decide +kernel⟩
theorem ck_law_grown : chkSs cc N_law_grown (defScope s_law_grown) b_law_grown (defBody s_law_grown) = true := by decide +kernel
abbrev s_law_part : Stmt := top 37
abbrev N_law_part : List Str := ["_law_text_here", "_law_at", "_law_here", "_law_kids", "_law_sign", "_law_kid"]
abbrev P_law_part : List Str := ["_law_text_here", "_law_at"]
theorem sc_law_part : FnScope N_law_part P_law_part (defScope s_law_part) := ⟨rfl, rfl, rfl, by decide +kernel, rfl, by decide +kernel, by decide +kernel⟩
theorem ck_law_part : chkSs cc N_law_part (defScope s_law_part) b_law_part (defBody s_law_part) = true := by decide +kernel
abbrev s_law_places : Stmt := top 35
abbrev N_law_places : List Str := ["_law_tree_here", "_law_found", "_law_k", "_law_place", "_law_part_here"]
abbrev P_law_places : List Str := ["_law_tree_here"]
theorem sc_law_places : FnScope N_law_places P_law_places (defScope s_law_places) := ⟨rfl, rfl, rfl, by decide +kernel, rfl, by decide +kernel, by decide +kernel⟩
theorem ck_law_places : chkSs cc N_law_places (defScope s_law_places) b_law_places (defBody s_law_places) = true := by decide +kernel
abbrev s_need_tree : Stmt := top 18
abbrev N_need_tree : List Str := ["tree", "left", "many", "kids", "place", "part", "k"]
abbrev P_need_tree : List Str := ["tree"]
theorem sc_need_tree : FnScope N_need_tree P_need_tree (defScope s_need_tree) := ⟨rfl, rfl, rfl, by decide +kernel, rfl, by decide +kernel, by decide +kernel⟩
theorem ck_need_tree : chkSs cc N_need_tree (defScope s_need_tree) b_need_tree (defBody s_need_tree) = true := by decide +kernel
abbrev s_Signs_init : Stmt := inClass (top 24) 0
abbrev N_Signs_init : List Str := ["self", "text", "kind"]
abbrev P_Signs_init : List Str := ["self", "text", "kind"]
theorem sc_Signs_init : FnScope N_Signs_init P_Signs_init (defScope s_Signs_init) := ⟨rfl, rfl, rfl, by decide +kernel, rfl, by decide +kernel, by decide +kernel⟩
theorem ck_Signs_init : chkSs cc N_Signs_init (defScope s_Signs_init) b_Signs_init (defBody s_Signs_init) = true := by decide +kernel
abbrev s_Signs_whole : Stmt := inClass (top 24) 5
abbrev N_Signs_whole : List Str := ["self", "found"]
abbrev P_Signs_whole : List Str := ["self"]
theorem sc_Signs_whole : FnScope N_Signs_whole P_Signs_whole (defScope s_Signs_whole) := ⟨rfl, rfl, rfl, by decide +kernel, rfl, by decide +kernel, by decide +kernel⟩
theorem ck_Signs_whole : chkSs cc N_Signs_whole (defScope s_Signs_whole) b_Signs_whole (defBody s_Signs_whole) = true := by decide +kernel
abbrev s_is_node : Stmt := top 17
abbrev N_is_node : List Str := ["tree"]
abbrev P_is_node : List Str := ["tree"]
theorem sc_is_node : FnScope N_is_node P_is_node (defScope s_is_node) := ⟨rfl, rfl, rfl, by decide +kernel, rfl, by decide +kernel, by decide +kernel⟩
theorem ck_is_node : chkSs cc N_is_node (defScope s_is_node) b_is_node (defBody s_is_node) = true := by decide +kernel
abbrev s_Signs_part : Stmt := inClass (top 24) 3
abbrev N_Signs_part : List Str := ["self", "label", "kids"]
abbrev P_Signs_part : List Str := ["self"]
theorem sc_Signs_part : FnScope N_Signs_part P_Signs_part (defScope s_Signs_part) := ⟨rfl, rfl, rfl, by decide +kernel, rfl, by decide +kernel, by decide +kernel⟩
theorem ck_Signs_part : chkSs cc N_Signs_part (defScope s_Signs_part) b_Signs_part (defBody s_Signs_part) = true := by decide +kernel
abbrev s_is_label : Stmt := top 16
abbrev N_is_label : List Str := ["part"]
abbrev P_is_label : List Str := ["part"]
theorem sc_is_label : FnScope N_is_label P_is_label (defScope s_is_label) := ⟨rfl, rfl, rfl, by decide +kernel, rfl, by decide +kernel, by decide +kernel⟩
theorem ck_is_label : chkSs cc N_is_label (defScope s_is_label) b_is_label (defBody s_is_label) = true := by decide +kernel
abbrev s_Signs_here : Stmt := inClass (top 24) 1
abbrev N_Signs_here : List Str := ["self"]
abbrev P_Signs_here : List Str := ["self"]
theorem sc_Signs_here : FnScope N_Signs_here P_Signs_here (defScope s_Signs_here) := ⟨rfl, rfl, rfl, by decide +kernel, rfl, by decide +kernel, by decide +kernel⟩
theorem ck_Signs_here : chkSs cc N_Signs_here (defScope s_Signs_here) b_Signs_here (defBody s_Signs_here) = true := by decide +kernel
abbrev s_Signs_take : Stmt := inClass (top 24) 2
abbrev N_Signs_take : List Str := ["self", "signs", "sign"]
abbrev P_Signs_take : List Str := ["self", "signs"]
theorem sc_Signs_take : FnScope N_Signs_take P_Signs_take (defScope s_Signs_take) := ⟨rfl, rfl, rfl, by decide +kernel, rfl, by decide +kernel, by decide +kernel⟩
theorem ck_Signs_take : chkSs cc N_Signs_take (defScope s_Signs_take) b_Signs_take (defBody s_Signs_take) = true := by decide +kernel
abbrev s_Signs_do : Stmt := inClass (top 24) 4
abbrev N_Signs_do : List Str := ["self", "state", "path"]
abbrev P_Signs_do : List Str := ["self"]
theorem sc_Signs_do : FnScope N_Signs_do P_Signs_do (defScope s_Signs_do) := ⟨rfl, rfl, rfl, by decide +kernel, rfl, by decide +kernel, by decide +kernel⟩
theorem ck_Signs_do : chkSs cc N_Signs_do (defScope s_Signs_do) b_Signs_do (defBody s_Signs_do) = true := by decide +kernel
abbrev s_BadTreeI : Stmt := inClass (top 2) 0
theorem sc_BadTreeI : FnScope ["self", "place"] ["self", "place"] (defScope s_BadTreeI) := ⟨rfl, rfl, rfl, by decide +kernel, rfl, by decide +kernel, by decide +kernel⟩
theorem ck_BadTreeI : iniB "TellError" "place" "self" "place" (defBody s_BadTreeI) = true := by decide +kernel
abbrev s_BadTextI : Stmt := inClass (top 10) 0
theorem sc_BadTextI : FnScope ["self", "number"] ["self", "number"] (defScope s_BadTextI) := ⟨rfl, rfl, rfl, by decide +kernel, rfl, by decide +kernel, by decide +kernel⟩
theorem ck_BadTextI : iniB "TellError" "number" "self" "number" (defBody s_BadTextI) = true := by decide +kernel
abbrev s_told : Stmt := top 30
theorem sc_told : FnScope (tN "_law_word") ["_law_work"] (defScope s_told) := ⟨rfl, rfl, rfl, by decide +kernel, rfl, by decide +kernel, by decide +kernel⟩
theorem bo_told : bodyB (defScope s_told) "_law_word" (defBody s_told) = true := by decide +kernel
theorem lo_told : ∀ x ∈ tN "_law_word", (defScope s_told).names.lookup x = some .local ∧ (x == ("__debug__" : Str)) = false ∧ (x == ("__classdict__" : Str)) = false := by decide +kernel
theorem gl_told : (defScope s_told).names.lookup ("isinstance" : Str) = some .globalImplicit ∧ (defScope s_told).names.lookup ("ValueError" : Str) = some .globalImplicit ∧ (defScope s_told).names.lookup ("TellError" : Str) = some .globalImplicit := by decide +kernel
theorem nd_told : (tN "_law_word").Nodup := by decide +kernel
theorem all_mk {l : PySem.W.OpenLaw} {q : Program} {w : World} {K : PySem.W.Frag} {h : Heap} {mg : Str → Option Value} {fa f0 f1 f2 f3 f4 f5 f6 f7 f8 f9 f10 f11 f12 f13 f14 f15 f16 f17 f18 f19 f20 f21 C0 Z_BadTree Z_BadBook Z_BadPlace Z_TooBig Z_TooMany Z_NotKeeping Z_BadState Z_BadPairs Z_BadText ZT fG fI_BadTree fI_BadText : Addr} (X : K.In h) (G : h.Ns mainGlobals mg) (hfa : mg "law" = some (.ref fa)) (tabs : TabsOf q mg h) (hK : noTabB K = true) (hr0 : recB q "law" = true)
  {od0 an0 od1 an1 od2 an2 od3 an3 od4 an4 od5 an5 od6 an6 od7 an7 od8 an8 od9 an9 od10 an10 od11 an11 od12 an12 od13 an13 od14 an14 od15 an15 od16 an16 od17 an17 od18 an18 od19 an19 od20 an20 od21 an21 : Option Addr} {sl0 sl1 sl2 sl3 sl4 sl5 sl6 sl7 sl8 sl9 sl10 sl11 sl12 sl13 sl14 sl15 sl16 sl17 sl18 sl19 sl20 sl21 : Array (Option Value)} {oc0 kV0 dc0 pm0 cd0 ct0 oc1 kV1 dc1 pm1 cd1 ct1 oc2 kV2 dc2 pm2 cd2 ct2 oc3 kV3 dc3 pm3 cd3 ct3 oc4 kV4 dc4 pm4 cd4 ct4 oc5 kV5 dc5 pm5 cd5 ct5 oc6 kV6 dc6 pm6 cd6 ct6 oc7 kV7 dc7 pm7 cd7 ct7 oc8 kV8 dc8 pm8 cd8 ct8 oc9 kV9 dc9 pm9 cd9 ct9 oc10 kV10 dc10 pm10 cd10 ct10 oc11 kV11 dc11 pm11 cd11 ct11 oc12 kV12 dc12 pm12 cd12 ct12 oc13 kV13 dc13 pm13 cd13 ct13 oc14 kV14 dc14 pm14 cd14 ct14 oc15 kV15 dc15 pm15 cd15 ct15 oc16 kV16 dc16 pm16 cd16 ct16 oc17 kV17 dc17 pm17 cd17 ct17 oc18 kV18 dc18 pm18 cd18 ct18 oc19 kV19 dc19 pm19 cd19 ct19 oc20 kV20 dc20 pm20 cd20 ct20 oc21 kV21 dc21 pm21 cd21 ct21 : Value} {t0 : Tok} {T0 : Addr} {d0 : Option Addr} {nn0 : Nat} {ss0 : Array (Option Value)} {t1 : Tok} {t2 : Tok} {t3 : Tok} {t4 : Tok} {T4 : Addr} {d4 : Option Addr} {nn4 : Nat} {ss4 : Array (Option Value)} {t5 : Tok} {t6 : Tok} {t7 : Tok} {nmZ0 qZ0 : Str} {NZ0 : Addr} {bsZ0 sbsZ0 : List Value} {snZ0 : List Str} {abZ0 : Bool} {colZ0 : Option Bool} {ddZ0 : Option Addr} {m0Z0 m1Z0 m2Z0 m3Z0 m5Z0 : Option Value} {odE0 anE0 : Option Addr} {slE0 : Array (Option Value)} {ocE0 kVE0 dcE0 pmE0 cdE0 ctE0 : Value} {nmZ1 qZ1 : Str} {NZ1 : Addr} {bsZ1 sbsZ1 : List Value} {snZ1 : List Str} {abZ1 : Bool} {colZ1 : Option Bool} {ddZ1 : Option Addr} {m0Z1 m1Z1 m2Z1 m3Z1 m5Z1 : Option Value} {odE1 anE1 : Option Addr} {slE1 : Array (Option Value)} {ocE1 kVE1 dcE1 pmE1 cdE1 ctE1 : Value} {odG anG : Option Addr} {slG : Array (Option Value)} {ocG kVG dcG pmG cdG ctG : Value}
  (aC0 : PySem.W.nsIn K mainGlobals "Signs" = some (some (.ref C0)))
  (pg0 : PySem.W.plainGet K C0 Str.empty = true)
  (hd0 : PySem.W.hasDictIn K C0 = true)
  (po0 : PySem.W.plainOver K C0 = true)
  (sa0 : PySem.W.findIn K (.ref C0) "__setattr__" = some (some (.builtin "object.__setattr__")))
  (mk0 : PySem.W.makesIn K C0 = true)
  (kc0 : PySem.W.keepIn K (.ref C0) = true)
  (n0_0 : PySem.W.findIn K (.ref C0) "text" = some none)
  (n0_1 : PySem.W.findIn K (.ref C0) "at" = some none)
  (n0_2 : PySem.W.findIn K (.ref C0) "kind" = some none)
  (aZT : PySem.W.nsIn K mainGlobals "TellError" = some (some (.ref ZT)))
  (icZT : PySem.W.isClsIn K ZT = true)
  (tyZT : PySem.W.typeIn K (.ref ZT) = some (.type "type"))
  (bZT : PySem.W.subIn K (.ref ZT) (.type "BaseException") = some true)
  (hnZ : PySem.W.specialIn K (.builtin "object.__class__") "__get__" = some (some (.builtin "getset_descriptor.__get__")))
  (htZ : PySem.W.takesIn K (.builtin "object.__class__") = some true)
  (spZT : PySem.W.specialIn K (.ref ZT) "__getattribute__" = some (some (.builtin "type.__getattribute__")))
  (rdZT : PySem.W.readsIn K ZT (.type "type") = true)
  (fiZT : PySem.W.findCls K (.ref ZT) (.type "type") "__init__" = some (.val (.builtin "ValueError.__init__")))
  (aZ_BadTree : PySem.W.nsIn K mainGlobals "BadTree" = some (some (.ref Z_BadTree)))
  (icZ_BadTree : PySem.W.isClsIn K Z_BadTree = true)
  (tyZ_BadTree : PySem.W.typeIn K (.ref Z_BadTree) = some (.type "type"))
  (aZ_BadBook : PySem.W.nsIn K mainGlobals "BadBook" = some (some (.ref Z_BadBook)))
  (icZ_BadBook : PySem.W.isClsIn K Z_BadBook = true)
  (tyZ_BadBook : PySem.W.typeIn K (.ref Z_BadBook) = some (.type "type"))
  (aZ_BadPlace : PySem.W.nsIn K mainGlobals "BadPlace" = some (some (.ref Z_BadPlace)))
  (icZ_BadPlace : PySem.W.isClsIn K Z_BadPlace = true)
  (tyZ_BadPlace : PySem.W.typeIn K (.ref Z_BadPlace) = some (.type "type"))
  (aZ_TooBig : PySem.W.nsIn K mainGlobals "TooBig" = some (some (.ref Z_TooBig)))
  (icZ_TooBig : PySem.W.isClsIn K Z_TooBig = true)
  (tyZ_TooBig : PySem.W.typeIn K (.ref Z_TooBig) = some (.type "type"))
  (aZ_TooMany : PySem.W.nsIn K mainGlobals "TooMany" = some (some (.ref Z_TooMany)))
  (icZ_TooMany : PySem.W.isClsIn K Z_TooMany = true)
  (tyZ_TooMany : PySem.W.typeIn K (.ref Z_TooMany) = some (.type "type"))
  (aZ_NotKeeping : PySem.W.nsIn K mainGlobals "NotKeeping" = some (some (.ref Z_NotKeeping)))
  (icZ_NotKeeping : PySem.W.isClsIn K Z_NotKeeping = true)
  (tyZ_NotKeeping : PySem.W.typeIn K (.ref Z_NotKeeping) = some (.type "type"))
  (aZ_BadState : PySem.W.nsIn K mainGlobals "BadState" = some (some (.ref Z_BadState)))
  (icZ_BadState : PySem.W.isClsIn K Z_BadState = true)
  (tyZ_BadState : PySem.W.typeIn K (.ref Z_BadState) = some (.type "type"))
  (aZ_BadPairs : PySem.W.nsIn K mainGlobals "BadPairs" = some (some (.ref Z_BadPairs)))
  (icZ_BadPairs : PySem.W.isClsIn K Z_BadPairs = true)
  (tyZ_BadPairs : PySem.W.typeIn K (.ref Z_BadPairs) = some (.type "type"))
  (aZ_BadText : PySem.W.nsIn K mainGlobals "BadText" = some (some (.ref Z_BadText)))
  (icZ_BadText : PySem.W.isClsIn K Z_BadText = true)
  (tyZ_BadText : PySem.W.typeIn K (.ref Z_BadText) = some (.type "type"))
  (gaZ_BadTree : PySem.W.findIn K (.ref Z_BadTree) "__getattribute__" = some (some (.builtin "BaseException.__getattribute__")))
  (ggZ_BadTree : PySem.W.findIn K (.ref Z_BadTree) "__getattr__" = some none)
  (sbZ_BadTree : PySem.W.subIn K (.ref Z_BadTree) (.type "BaseException") = some true)
  (hdZ_BadTree : PySem.W.hasDictIn K Z_BadTree = true)
  (clZ_BadTree : PySem.W.findIn K (.ref Z_BadTree) "__class__" = some (some (.builtin "object.__class__")))
  (moZ_BadTree : PySem.W.mroIn K Z_BadTree (.type "object") = some true)
  (npZ_BadTree : PySem.W.findIn K (.ref Z_BadTree) "place" = some none)
  (nnZ_BadTree : PySem.W.findIn K (.ref Z_BadTree) "number" = some none)
  (svZ_BadTree : PySem.W.subIn K (.ref Z_BadTree) (.type "ValueError") = some true)
  (stZ_BadTree : PySem.W.subIn K (.ref Z_BadTree) (.ref ZT) = some true)
  (kpZ_BadTree : PySem.W.keepIn K (.ref Z_BadTree) = true)
  (neZ_BadTree_BadBook : (Z_BadTree == Z_BadBook) = false)
  (suZ_BadTree_BadBook : PySem.W.subIn K (.ref Z_BadTree) (.ref Z_BadBook) = some false)
  (neZ_BadTree_BadPlace : (Z_BadTree == Z_BadPlace) = false)
  (suZ_BadTree_BadPlace : PySem.W.subIn K (.ref Z_BadTree) (.ref Z_BadPlace) = some false)
  (neZ_BadTree_TooBig : (Z_BadTree == Z_TooBig) = false)
  (suZ_BadTree_TooBig : PySem.W.subIn K (.ref Z_BadTree) (.ref Z_TooBig) = some false)
  (neZ_BadTree_TooMany : (Z_BadTree == Z_TooMany) = false)
  (suZ_BadTree_TooMany : PySem.W.subIn K (.ref Z_BadTree) (.ref Z_TooMany) = some false)
  (neZ_BadTree_NotKeeping : (Z_BadTree == Z_NotKeeping) = false)
  (suZ_BadTree_NotKeeping : PySem.W.subIn K (.ref Z_BadTree) (.ref Z_NotKeeping) = some false)
  (neZ_BadTree_BadState : (Z_BadTree == Z_BadState) = false)
  (suZ_BadTree_BadState : PySem.W.subIn K (.ref Z_BadTree) (.ref Z_BadState) = some false)
  (neZ_BadTree_BadPairs : (Z_BadTree == Z_BadPairs) = false)
  (suZ_BadTree_BadPairs : PySem.W.subIn K (.ref Z_BadTree) (.ref Z_BadPairs) = some false)
  (neZ_BadTree_BadText : (Z_BadTree == Z_BadText) = false)
  (suZ_BadTree_BadText : PySem.W.subIn K (.ref Z_BadTree) (.ref Z_BadText) = some false)
  (gaZ_BadText : PySem.W.findIn K (.ref Z_BadText) "__getattribute__" = some (some (.builtin "BaseException.__getattribute__")))
  (ggZ_BadText : PySem.W.findIn K (.ref Z_BadText) "__getattr__" = some none)
  (sbZ_BadText : PySem.W.subIn K (.ref Z_BadText) (.type "BaseException") = some true)
  (hdZ_BadText : PySem.W.hasDictIn K Z_BadText = true)
  (clZ_BadText : PySem.W.findIn K (.ref Z_BadText) "__class__" = some (some (.builtin "object.__class__")))
  (moZ_BadText : PySem.W.mroIn K Z_BadText (.type "object") = some true)
  (npZ_BadText : PySem.W.findIn K (.ref Z_BadText) "place" = some none)
  (nnZ_BadText : PySem.W.findIn K (.ref Z_BadText) "number" = some none)
  (svZ_BadText : PySem.W.subIn K (.ref Z_BadText) (.type "ValueError") = some true)
  (stZ_BadText : PySem.W.subIn K (.ref Z_BadText) (.ref ZT) = some true)
  (kpZ_BadText : PySem.W.keepIn K (.ref Z_BadText) = true)
  (neZ_BadText_BadTree : (Z_BadText == Z_BadTree) = false)
  (suZ_BadText_BadTree : PySem.W.subIn K (.ref Z_BadText) (.ref Z_BadTree) = some false)
  (neZ_BadText_BadBook : (Z_BadText == Z_BadBook) = false)
  (suZ_BadText_BadBook : PySem.W.subIn K (.ref Z_BadText) (.ref Z_BadBook) = some false)
  (neZ_BadText_BadPlace : (Z_BadText == Z_BadPlace) = false)
  (suZ_BadText_BadPlace : PySem.W.subIn K (.ref Z_BadText) (.ref Z_BadPlace) = some false)
  (neZ_BadText_TooBig : (Z_BadText == Z_TooBig) = false)
  (suZ_BadText_TooBig : PySem.W.subIn K (.ref Z_BadText) (.ref Z_TooBig) = some false)
  (neZ_BadText_TooMany : (Z_BadText == Z_TooMany) = false)
  (suZ_BadText_TooMany : PySem.W.subIn K (.ref Z_BadText) (.ref Z_TooMany) = some false)
  (neZ_BadText_NotKeeping : (Z_BadText == Z_NotKeeping) = false)
  (suZ_BadText_NotKeeping : PySem.W.subIn K (.ref Z_BadText) (.ref Z_NotKeeping) = some false)
  (neZ_BadText_BadState : (Z_BadText == Z_BadState) = false)
  (suZ_BadText_BadState : PySem.W.subIn K (.ref Z_BadText) (.ref Z_BadState) = some false)
  (neZ_BadText_BadPairs : (Z_BadText == Z_BadPairs) = false)
  (suZ_BadText_BadPairs : PySem.W.subIn K (.ref Z_BadText) (.ref Z_BadPairs) = some false)
  (xLZ_BadTree : K.lookup Z_BadTree = some (excClassObj nmZ0 qZ0 Z_BadTree NZ0 bsZ0 [.ref ZT, .type "ValueError", .type "Exception", .type "BaseException", .type "object"] true snZ0 sbsZ0 abZ0 colZ0 ddZ0 m0Z0 m1Z0 m2Z0 m3Z0 m5Z0 "ValueError.__new__"))
  (saZ_BadTree : PySem.W.findIn K (.ref Z_BadTree) "__setattr__" = some (some (.builtin "object.__setattr__")))
  (aIZ_BadTree : PySem.W.findIn K (.ref Z_BadTree) "__init__" = some (some (.ref fI_BadTree)))
  (tIZ_BadTree : PySem.W.typeIn K (.ref fI_BadTree) = some (.type "function"))
  (lIZ_BadTree : K.lookup fI_BadTree = some ⟨ocE0, odE0, .func (PySem.W.fnOf "__init__" "BadTree.__init__" (defArgs s_BadTreeI) (defBody s_BadTreeI) (defScope s_BadTreeI) .none kVE0 dcE0 pmE0 anE0 cdE0 ctE0), slE0⟩)
  (cIZ_BadTree : PySem.W.codeIn K cdE0 "BadTree.__init__" = true)
  (kIZ_BadTree : PySem.W.keepIn K (.ref fI_BadTree) = true)
  (xLZ_BadText : K.lookup Z_BadText = some (excClassObj nmZ1 qZ1 Z_BadText NZ1 bsZ1 [.ref ZT, .type "ValueError", .type "Exception", .type "BaseException", .type "object"] true snZ1 sbsZ1 abZ1 colZ1 ddZ1 m0Z1 m1Z1 m2Z1 m3Z1 m5Z1 "ValueError.__new__"))
  (saZ_BadText : PySem.W.findIn K (.ref Z_BadText) "__setattr__" = some (some (.builtin "object.__setattr__")))
  (aIZ_BadText : PySem.W.findIn K (.ref Z_BadText) "__init__" = some (some (.ref fI_BadText)))
  (tIZ_BadText : PySem.W.typeIn K (.ref fI_BadText) = some (.type "function"))
  (lIZ_BadText : K.lookup fI_BadText = some ⟨ocE1, odE1, .func (PySem.W.fnOf "__init__" "BadText.__init__" (defArgs s_BadTextI) (defBody s_BadTextI) (defScope s_BadTextI) .none kVE1 dcE1 pmE1 anE1 cdE1 ctE1), slE1⟩)
  (cIZ_BadText : PySem.W.codeIn K cdE1 "BadText.__init__" = true)
  (kIZ_BadText : PySem.W.keepIn K (.ref fI_BadText) = true)
  (aG : PySem.W.nsIn K mainGlobals "_law_told" = some (some (.ref fG)))
  (lG : K.lookup fG = some ⟨ocG, odG, .func (PySem.W.fnOf "_law_told" "_law_told" (defArgs s_told) (defBody s_told) (defScope s_told) .none kVG dcG pmG anG cdG ctG), slG⟩)
  (cG : PySem.W.codeIn K cdG "_law_told" = true)
  (kG : PySem.W.keepIn K (.ref fG) = true)
  (zisi : PySem.W.nsIn K mainGlobals "isinstance" = some none)
  (zval : PySem.W.nsIn K mainGlobals "ValueError" = some none)
  (a0 : PySem.W.nsIn K mainGlobals "law" = some (some (.ref f0)))
  (l0 : K.lookup f0 = some ⟨oc0, od0, .func (PySem.W.fnOf "law" "law" (defArgs s_law) (defBody s_law) (defScope s_law) .none kV0 dc0 pm0 an0 cd0 ct0), sl0⟩)
  (c0 : PySem.W.codeIn K cd0 "law" = true)
  (k0 : PySem.W.keepIn K (.ref f0) = true)
  (a1 : PySem.W.nsIn K mainGlobals "_law_begun" = some (some (.ref f1)))
  (l1 : K.lookup f1 = some ⟨oc1, od1, .func (PySem.W.fnOf "_law_begun" "_law_begun" (defArgs s_law_begun) (defBody s_law_begun) (defScope s_law_begun) .none kV1 dc1 pm1 an1 cd1 ct1), sl1⟩)
  (c1 : PySem.W.codeIn K cd1 "_law_begun" = true)
  (k1 : PySem.W.keepIn K (.ref f1) = true)
  (a2 : PySem.W.nsIn K mainGlobals "_law_text" = some (some (.ref f2)))
  (l2 : K.lookup f2 = some ⟨oc2, od2, .func (PySem.W.fnOf "_law_text" "_law_text" (defArgs s_law_text) (defBody s_law_text) (defScope s_law_text) .none kV2 dc2 pm2 an2 cd2 ct2), sl2⟩)
  (c2 : PySem.W.codeIn K cd2 "_law_text" = true)
  (k2 : PySem.W.keepIn K (.ref f2) = true)
  (a3 : PySem.W.nsIn K mainGlobals "_law_tree" = some (some (.ref f3)))
  (l3 : K.lookup f3 = some ⟨oc3, od3, .func (PySem.W.fnOf "_law_tree" "_law_tree" (defArgs s_law_tree) (defBody s_law_tree) (defScope s_law_tree) .none kV3 dc3 pm3 an3 cd3 ct3), sl3⟩)
  (c3 : PySem.W.codeIn K cd3 "_law_tree" = true)
  (k3 : PySem.W.keepIn K (.ref f3) = true)
  (a4 : PySem.W.nsIn K mainGlobals "_law_take" = some (some (.ref f4)))
  (l4 : K.lookup f4 = some ⟨oc4, od4, .func (PySem.W.fnOf "_law_take" "_law_take" (defArgs s_law_take) (defBody s_law_take) (defScope s_law_take) .none kV4 dc4 pm4 an4 cd4 ct4), sl4⟩)
  (c4 : PySem.W.codeIn K cd4 "_law_take" = true)
  (k4 : PySem.W.keepIn K (.ref f4) = true)
  (a5 : PySem.W.nsIn K mainGlobals "_law_wide" = some (some (.ref f5)))
  (l5 : K.lookup f5 = some ⟨oc5, od5, .func (PySem.W.fnOf "_law_wide" "_law_wide" (defArgs s_law_wide) (defBody s_law_wide) (defScope s_law_wide) .none kV5 dc5 pm5 an5 cd5 ct5), sl5⟩)
  (c5 : PySem.W.codeIn K cd5 "_law_wide" = true)
  (k5 : PySem.W.keepIn K (.ref f5) = true)
  (a6 : PySem.W.nsIn K mainGlobals "_law_spoilt" = some (some (.ref f6)))
  (l6 : K.lookup f6 = some ⟨oc6, od6, .func (PySem.W.fnOf "_law_spoilt" "_law_spoilt" (defArgs s_law_spoilt) (defBody s_law_spoilt) (defScope s_law_spoilt) .none kV6 dc6 pm6 an6 cd6 ct6), sl6⟩)
  (c6 : PySem.W.codeIn K cd6 "_law_spoilt" = true)
  (k6 : PySem.W.keepIn K (.ref f6) = true)
  (a7 : PySem.W.nsIn K mainGlobals "_law_alike" = some (some (.ref f7)))
  (l7 : K.lookup f7 = some ⟨oc7, od7, .func (PySem.W.fnOf "_law_alike" "_law_alike" (defArgs s_law_alike) (defBody s_law_alike) (defScope s_law_alike) .none kV7 dc7 pm7 an7 cd7 ct7), sl7⟩)
  (c7 : PySem.W.codeIn K cd7 "_law_alike" = true)
  (k7 : PySem.W.keepIn K (.ref f7) = true)
  (a8 : PySem.W.nsIn K mainGlobals "_law_read" = some (some (.ref f8)))
  (l8 : K.lookup f8 = some ⟨oc8, od8, .func (PySem.W.fnOf "_law_read" "_law_read" (defArgs s_law_read) (defBody s_law_read) (defScope s_law_read) .none kV8 dc8 pm8 an8 cd8 ct8), sl8⟩)
  (c8 : PySem.W.codeIn K cd8 "_law_read" = true)
  (k8 : PySem.W.keepIn K (.ref f8) = true)
  (a9 : PySem.W.nsIn K mainGlobals "read" = some (some (.ref f9)))
  (l9 : K.lookup f9 = some ⟨oc9, od9, .func (PySem.W.fnOf "read" "read" (defArgs s_read) (defBody s_read) (defScope s_read) .none kV9 dc9 pm9 an9 cd9 ct9), sl9⟩)
  (c9 : PySem.W.codeIn K cd9 "read" = true)
  (k9 : PySem.W.keepIn K (.ref f9) = true)
  (a10 : PySem.W.nsIn K mainGlobals "_law_grown" = some (some (.ref f10)))
  (l10 : K.lookup f10 = some ⟨oc10, od10, .func (PySem.W.fnOf "_law_grown" "_law_grown" (defArgs s_law_grown) (defBody s_law_grown) (defScope s_law_grown) .none kV10 dc10 pm10 an10 cd10 ct10), sl10⟩)
  (c10 : PySem.W.codeIn K cd10 "_law_grown" = true)
  (k10 : PySem.W.keepIn K (.ref f10) = true)
  (a11 : PySem.W.nsIn K mainGlobals "_law_part" = some (some (.ref f11)))
  (l11 : K.lookup f11 = some ⟨oc11, od11, .func (PySem.W.fnOf "_law_part" "_law_part" (defArgs s_law_part) (defBody s_law_part) (defScope s_law_part) .none kV11 dc11 pm11 an11 cd11 ct11), sl11⟩)
  (c11 : PySem.W.codeIn K cd11 "_law_part" = true)
  (k11 : PySem.W.keepIn K (.ref f11) = true)
  (a12 : PySem.W.nsIn K mainGlobals "_law_places" = some (some (.ref f12)))
  (l12 : K.lookup f12 = some ⟨oc12, od12, .func (PySem.W.fnOf "_law_places" "_law_places" (defArgs s_law_places) (defBody s_law_places) (defScope s_law_places) .none kV12 dc12 pm12 an12 cd12 ct12), sl12⟩)
  (c12 : PySem.W.codeIn K cd12 "_law_places" = true)
  (k12 : PySem.W.keepIn K (.ref f12) = true)
  (a13 : PySem.W.nsIn K mainGlobals "need_tree" = some (some (.ref f13)))
  (l13 : K.lookup f13 = some ⟨oc13, od13, .func (PySem.W.fnOf "need_tree" "need_tree" (defArgs s_need_tree) (defBody s_need_tree) (defScope s_need_tree) .none kV13 dc13 pm13 an13 cd13 ct13), sl13⟩)
  (c13 : PySem.W.codeIn K cd13 "need_tree" = true)
  (k13 : PySem.W.keepIn K (.ref f13) = true)
  (a14 : PySem.W.findIn K (.ref C0) "__init__" = some (some (.ref f14)))
  (i14 : PySem.W.isFn K (.ref f14) = true)
  (l14 : K.lookup f14 = some ⟨oc14, od14, .func (PySem.W.fnOf "__init__" "Signs.__init__" (defArgs s_Signs_init) (defBody s_Signs_init) (defScope s_Signs_init) .none kV14 dc14 pm14 an14 cd14 ct14), sl14⟩)
  (c14 : PySem.W.codeIn K cd14 "Signs.__init__" = true)
  (k14 : PySem.W.keepIn K (.ref f14) = true)
  (a15 : PySem.W.findIn K (.ref C0) "whole" = some (some (.ref f15)))
  (i15 : PySem.W.isFn K (.ref f15) = true)
  (l15 : K.lookup f15 = some ⟨oc15, od15, .func (PySem.W.fnOf "whole" "Signs.whole" (defArgs s_Signs_whole) (defBody s_Signs_whole) (defScope s_Signs_whole) .none kV15 dc15 pm15 an15 cd15 ct15), sl15⟩)
  (c15 : PySem.W.codeIn K cd15 "Signs.whole" = true)
  (k15 : PySem.W.keepIn K (.ref f15) = true)
  (a16 : PySem.W.nsIn K mainGlobals "is_node" = some (some (.ref f16)))
  (l16 : K.lookup f16 = some ⟨oc16, od16, .func (PySem.W.fnOf "is_node" "is_node" (defArgs s_is_node) (defBody s_is_node) (defScope s_is_node) .none kV16 dc16 pm16 an16 cd16 ct16), sl16⟩)
  (c16 : PySem.W.codeIn K cd16 "is_node" = true)
  (k16 : PySem.W.keepIn K (.ref f16) = true)
  (a17 : PySem.W.findIn K (.ref C0) "part" = some (some (.ref f17)))
  (i17 : PySem.W.isFn K (.ref f17) = true)
  (l17 : K.lookup f17 = some ⟨oc17, od17, .func (PySem.W.fnOf "part" "Signs.part" (defArgs s_Signs_part) (defBody s_Signs_part) (defScope s_Signs_part) .none kV17 dc17 pm17 an17 cd17 ct17), sl17⟩)
  (c17 : PySem.W.codeIn K cd17 "Signs.part" = true)
  (k17 : PySem.W.keepIn K (.ref f17) = true)
  (a18 : PySem.W.nsIn K mainGlobals "is_label" = some (some (.ref f18)))
  (l18 : K.lookup f18 = some ⟨oc18, od18, .func (PySem.W.fnOf "is_label" "is_label" (defArgs s_is_label) (defBody s_is_label) (defScope s_is_label) .none kV18 dc18 pm18 an18 cd18 ct18), sl18⟩)
  (c18 : PySem.W.codeIn K cd18 "is_label" = true)
  (k18 : PySem.W.keepIn K (.ref f18) = true)
  (a19 : PySem.W.findIn K (.ref C0) "here" = some (some (.ref f19)))
  (i19 : PySem.W.isFn K (.ref f19) = true)
  (l19 : K.lookup f19 = some ⟨oc19, od19, .func (PySem.W.fnOf "here" "Signs.here" (defArgs s_Signs_here) (defBody s_Signs_here) (defScope s_Signs_here) .none kV19 dc19 pm19 an19 cd19 ct19), sl19⟩)
  (c19 : PySem.W.codeIn K cd19 "Signs.here" = true)
  (k19 : PySem.W.keepIn K (.ref f19) = true)
  (a20 : PySem.W.findIn K (.ref C0) "take" = some (some (.ref f20)))
  (i20 : PySem.W.isFn K (.ref f20) = true)
  (l20 : K.lookup f20 = some ⟨oc20, od20, .func (PySem.W.fnOf "take" "Signs.take" (defArgs s_Signs_take) (defBody s_Signs_take) (defScope s_Signs_take) .none kV20 dc20 pm20 an20 cd20 ct20), sl20⟩)
  (c20 : PySem.W.codeIn K cd20 "Signs.take" = true)
  (k20 : PySem.W.keepIn K (.ref f20) = true)
  (a21 : PySem.W.findIn K (.ref C0) "do" = some (some (.ref f21)))
  (i21 : PySem.W.isFn K (.ref f21) = true)
  (l21 : K.lookup f21 = some ⟨oc21, od21, .func (PySem.W.fnOf "do" "Signs.do" (defArgs s_Signs_do) (defBody s_Signs_do) (defScope s_Signs_do) .none kV21 dc21 pm21 an21 cd21 ct21), sl21⟩)
  (c21 : PySem.W.codeIn K cd21 "Signs.do" = true)
  (k21 : PySem.W.keepIn K (.ref f21) = true)
  (g0 : PySem.W.nsIn K mainGlobals "ANY" = some (some (.ref T0)))
  (h0 : K.lookup T0 = some ⟨.type "tuple", d0, .seq #[.str "any" t0] nn0, ss0⟩)
  (g1 : PySem.W.nsIn K mainGlobals "DO" = some (some (.str "do" t1)))
  (g2 : PySem.W.nsIn K mainGlobals "FIGURES" = some (some (.str "0123456789" t2)))
  (g3 : PySem.W.nsIn K mainGlobals "LABELS" = some (some (.str "abcdef" t3)))
  (g4 : PySem.W.nsIn K mainGlobals "LEAF" = some (some (.ref T4)))
  (h4 : K.lookup T4 = some ⟨.type "tuple", d4, .seq #[.str "leaf" t4] nn4, ss4⟩)
  (g5 : PySem.W.nsIn K mainGlobals "MOST_DEEP" = some (some (.int 12 t5)))
  (g6 : PySem.W.nsIn K mainGlobals "MOST_KIDS" = some (some (.int 3 t6)))
  (g7 : PySem.W.nsIn K mainGlobals "MOST_PLACES" = some (some (.int 60 t7)))
  (z0 : PySem.W.nsIn K mainGlobals "bool" = some none)
  (z1 : PySem.W.nsIn K mainGlobals "int" = some none)
  (z2 : PySem.W.nsIn K mainGlobals "isinstance" = some none)
  (z3 : PySem.W.nsIn K mainGlobals "len" = some none)
  (z4 : PySem.W.nsIn K mainGlobals "list" = some none)
  (z5 : PySem.W.nsIn K mainGlobals "min" = some none)
  (z6 : PySem.W.nsIn K mainGlobals "range" = some none)
  (z7 : PySem.W.nsIn K mainGlobals "str" = some none)
  (z8 : PySem.W.nsIn K mainGlobals "tuple" = some none)
  (kmax F : Nat) (hev : ∀ ns : List Int, ns.length ≤ 63 → ∃ st, pr.call F kmax f_law [.fl (ns.map D.int)] [] = .ok (.bl true) st) :
  LamX.LawAtS l w K (L2.CX l.prog w) (4 * kmax + 1) 63 "_law_script" mg fa h := by
  have e := hfa.symm.trans (PySem.W.mg_of X G a0)
  cases e
  have F0 := fun_mk (st := s_law) l0 c0 k0
  have b0 := F0.binds (ps := P_law) fun _ _ _ _ _ _ us hl => match us, hl with | [_], _ => rfl
  have F1 := fun_mk (st := s_law_begun) l1 c1 k1
  have b1 := F1.binds (ps := P_law_begun) fun _ _ _ _ _ _ us hl => match us, hl with | [_], _ => rfl
  have F2 := fun_mk (st := s_law_text) l2 c2 k2
  have b2 := F2.binds (ps := P_law_text) fun _ _ _ _ _ _ us hl => match us, hl with | [_], _ => rfl
  have F3 := fun_mk (st := s_law_tree) l3 c3 k3
  have b3 := F3.binds (ps := P_law_tree) fun _ _ _ _ _ _ us hl => match us, hl with | [_, _], _ => rfl
  have F4 := fun_mk (st := s_law_take) l4 c4 k4
  have b4 := F4.binds (ps := P_law_take) fun _ _ _ _ _ _ us hl => match us, hl with | [_, _], _ => rfl
  have F5 := fun_mk (st := s_law_wide) l5 c5 k5
  have b5 := F5.binds (ps := P_law_wide) fun _ _ _ _ _ _ us hl => match us, hl with | [_], _ => rfl
  have F6 := fun_mk (st := s_law_spoilt) l6 c6 k6
  have b6 := F6.binds (ps := P_law_spoilt) fun _ _ _ _ _ _ us hl => match us, hl with | [_, _], _ => rfl
  have F7 := fun_mk (st := s_law_alike) l7 c7 k7
  have b7 := F7.binds (ps := P_law_alike) fun _ _ _ _ _ _ us hl => match us, hl with | [_, _], _ => rfl
  have F8 := fun_mk (st := s_law_read) l8 c8 k8
  have b8 := F8.binds (ps := P_law_read) fun _ _ _ _ _ _ us hl => match us, hl with | [_], _ => rfl
  have F9 := fun_mk (st := s_read) l9 c9 k9
  have b9 := F9.binds (ps := P_read) fun _ _ _ _ _ _ us hl => match us, hl with | [_], _ => rfl
  have F10 := fun_mk (st := s_law_grown) l10 c10 k10
  have b10 := F10.binds (ps := P_law_grown) fun _ _ _ _ _ _ us hl => match us, hl with | [_, _, _, _], _ => rfl
  have F11 := fun_mk (st := s_law_part) l11 c11 k11
  have b11 := F11.binds (ps := P_law_part) fun _ _ _ _ _ _ us hl => match us, hl with | [_, _], _ => rfl
  have F12 := fun_mk (st := s_law_places) l12 c12 k12
  have b12 := F12.binds (ps := P_law_places) fun _ _ _ _ _ _ us hl => match us, hl with | [_], _ => rfl
  have F13 := fun_mk (st := s_need_tree) l13 c13 k13
  have b13 := F13.binds (ps := P_need_tree) fun _ _ _ _ _ _ us hl => match us, hl with | [_], _ => rfl
  have F14 := fun_mk (st := s_Signs_init) l14 c14 k14
  have b14 := F14.binds (ps := P_Signs_init) fun _ _ _ _ _ _ us hl => match us, hl with | [_, _, _], _ => rfl
  have F15 := fun_mk (st := s_Signs_whole) l15 c15 k15
  have b15 := F15.binds (ps := P_Signs_whole) fun _ _ _ _ _ _ us hl => match us, hl with | [_], _ => rfl
  have F16 := fun_mk (st := s_is_node) l16 c16 k16
  have b16 := F16.binds (ps := P_is_node) fun _ _ _ _ _ _ us hl => match us, hl with | [_], _ => rfl
  have F17 := fun_mk (st := s_Signs_part) l17 c17 k17
  have b17 := F17.binds (ps := P_Signs_part) fun _ _ _ _ _ _ us hl => match us, hl with | [_], _ => rfl
  have F18 := fun_mk (st := s_is_label) l18 c18 k18
  have b18 := F18.binds (ps := P_is_label) fun _ _ _ _ _ _ us hl => match us, hl with | [_], _ => rfl
  have F19 := fun_mk (st := s_Signs_here) l19 c19 k19
  have b19 := F19.binds (ps := P_Signs_here) fun _ _ _ _ _ _ us hl => match us, hl with | [_], _ => rfl
  have F20 := fun_mk (st := s_Signs_take) l20 c20 k20
  have b20 := F20.binds (ps := P_Signs_take) fun _ _ _ _ _ _ us hl => match us, hl with | [_, _], _ => rfl
  have F21 := fun_mk (st := s_Signs_do) l21 c21 k21
  have b21 := F21.binds (ps := P_Signs_do) fun _ _ _ _ _ _ us hl => match us, hl with | [_], _ => rfl
  obtain ⟨cc0, cP0, ec0, hC0, hP0⟩ := tabOf tabs X hr0 hfa l0
  subst ec0
  have tT : ∀ p ∈ ([(cc0, cP0)] : List (Addr × Addr)), h.get? p.2 = some { cls := .none, data := .fields #[] } := fun p hp => by
    simp only [List.mem_cons, List.not_mem_nil, or_false] at hp
    subst hp
    exact hP0
  have tC : ∀ p ∈ ([(cc0, cP0)] : List (Addr × Addr)), PySem.W.CodeHd h p.1 p.2 := fun p hp => by
    simp only [List.mem_cons, List.not_mem_nil, or_false] at hp
    subst hp
    exact hC0
  refine ⟨PySem.W.fnOf "law" "law" (defArgs s_law) (defBody s_law) (defScope s_law) .none kV0 dc0 pm0 an0 (.ref cc0) ct0, [(cc0, cP0)], spLawL [(cP0, (PyProof.Rows.envOfC "law" (defScope s_law) 0 0 .none).qual ++ "<lambda>")] K, tT, fun p hp => noTab hK X (tT p hp), tC, fun s v => .of_eq rfl, fun H a ns hl _ hH hS => ⟨a, ns, rfl, fun p hp => ?_, hS, hl, fun _ => rfl⟩, fun base _ _ TB => ?_⟩
  · simp only [List.mem_cons, List.not_mem_nil, or_false] at hp
    subst hp; exact hH (cc0, cP0) (by simp)
  let W : Wd := {
    P := l.prog, w := w, K := K, mg := mg, base := base, pr := pr, F := F,
    fa := (fun i => match i with | 0 => fa | 1 => f1 | 2 => f2 | 3 => f3 | 4 => f4 | 5 => f5 | 6 => f6 | 7 => f7 | 8 => f8 | 9 => f9 | 10 => f10 | 11 => f11 | 12 => f12 | 13 => f13 | 14 => f14 | 15 => f15 | 16 => f16 | 17 => f17 | 18 => f18 | 19 => f19 | 20 => f20 | 21 => f21 | _ => fa),
    fd := (fun i => match i with | 0 => PySem.W.fnOf "law" "law" (defArgs s_law) (defBody s_law) (defScope s_law) .none kV0 dc0 pm0 an0 (.ref cc0) ct0 | 1 => PySem.W.fnOf "_law_begun" "_law_begun" (defArgs s_law_begun) (defBody s_law_begun) (defScope s_law_begun) .none kV1 dc1 pm1 an1 cd1 ct1 | 2 => PySem.W.fnOf "_law_text" "_law_text" (defArgs s_law_text) (defBody s_law_text) (defScope s_law_text) .none kV2 dc2 pm2 an2 cd2 ct2 | 3 => PySem.W.fnOf "_law_tree" "_law_tree" (defArgs s_law_tree) (defBody s_law_tree) (defScope s_law_tree) .none kV3 dc3 pm3 an3 cd3 ct3 | 4 => PySem.W.fnOf "_law_take" "_law_take" (defArgs s_law_take) (defBody s_law_take) (defScope s_law_take) .none kV4 dc4 pm4 an4 cd4 ct4 | 5 => PySem.W.fnOf "_law_wide" "_law_wide" (defArgs s_law_wide) (defBody s_law_wide) (defScope s_law_wide) .none kV5 dc5 pm5 an5 cd5 ct5 | 6 => PySem.W.fnOf "_law_spoilt" "_law_spoilt" (defArgs s_law_spoilt) (defBody s_law_spoilt) (defScope s_law_spoilt) .none kV6 dc6 pm6 an6 cd6 ct6 | 7 => PySem.W.fnOf "_law_alike" "_law_alike" (defArgs s_law_alike) (defBody s_law_alike) (defScope s_law_alike) .none kV7 dc7 pm7 an7 cd7 ct7 | 8 => PySem.W.fnOf "_law_read" "_law_read" (defArgs s_law_read) (defBody s_law_read) (defScope s_law_read) .none kV8 dc8 pm8 an8 cd8 ct8 | 9 => PySem.W.fnOf "read" "read" (defArgs s_read) (defBody s_read) (defScope s_read) .none kV9 dc9 pm9 an9 cd9 ct9 | 10 => PySem.W.fnOf "_law_grown" "_law_grown" (defArgs s_law_grown) (defBody s_law_grown) (defScope s_law_grown) .none kV10 dc10 pm10 an10 cd10 ct10 | 11 => PySem.W.fnOf "_law_part" "_law_part" (defArgs s_law_part) (defBody s_law_part) (defScope s_law_part) .none kV11 dc11 pm11 an11 cd11 ct11 | 12 => PySem.W.fnOf "_law_places" "_law_places" (defArgs s_law_places) (defBody s_law_places) (defScope s_law_places) .none kV12 dc12 pm12 an12 cd12 ct12 | 13 => PySem.W.fnOf "need_tree" "need_tree" (defArgs s_need_tree) (defBody s_need_tree) (defScope s_need_tree) .none kV13 dc13 pm13 an13 cd13 ct13 | 14 => PySem.W.fnOf "__init__" "Signs.__init__" (defArgs s_Signs_init) (defBody s_Signs_init) (defScope s_Signs_init) .none kV14 dc14 pm14 an14 cd14 ct14 | 15 => PySem.W.fnOf "whole" "Signs.whole" (defArgs s_Signs_whole) (defBody s_Signs_whole) (defScope s_Signs_whole) .none kV15 dc15 pm15 an15 cd15 ct15 | 16 => PySem.W.fnOf "is_node" "is_node" (defArgs s_is_node) (defBody s_is_node) (defScope s_is_node) .none kV16 dc16 pm16 an16 cd16 ct16 | 17 => PySem.W.fnOf "part" "Signs.part" (defArgs s_Signs_part) (defBody s_Signs_part) (defScope s_Signs_part) .none kV17 dc17 pm17 an17 cd17 ct17 | 18 => PySem.W.fnOf "is_label" "is_label" (defArgs s_is_label) (defBody s_is_label) (defScope s_is_label) .none kV18 dc18 pm18 an18 cd18 ct18 | 19 => PySem.W.fnOf "here" "Signs.here" (defArgs s_Signs_here) (defBody s_Signs_here) (defScope s_Signs_here) .none kV19 dc19 pm19 an19 cd19 ct19 | 20 => PySem.W.fnOf "take" "Signs.take" (defArgs s_Signs_take) (defBody s_Signs_take) (defScope s_Signs_take) .none kV20 dc20 pm20 an20 cd20 ct20 | 21 => PySem.W.fnOf "do" "Signs.do" (defArgs s_Signs_do) (defBody s_Signs_do) (defScope s_Signs_do) .none kV21 dc21 pm21 an21 cd21 ct21 | _ => PySem.W.fnOf "law" "law" (defArgs s_law) (defBody s_law) (defScope s_law) .none kV0 dc0 pm0 an0 (.ref cc0) ct0),
    ps := (fun i => match i with | 0 => P_law | 1 => P_law_begun | 2 => P_law_text | 3 => P_law_tree | 4 => P_law_take | 5 => P_law_wide | 6 => P_law_spoilt | 7 => P_law_alike | 8 => P_law_read | 9 => P_read | 10 => P_law_grown | 11 => P_law_part | 12 => P_law_places | 13 => P_need_tree | 14 => P_Signs_init | 15 => P_Signs_whole | 16 => P_is_node | 17 => P_Signs_part | 18 => P_is_label | 19 => P_Signs_here | 20 => P_Signs_take | 21 => P_Signs_do | _ => []),
    ca := (fun c => match c with | 0 => C0 | 1 => Z_BadTree | 2 => Z_BadText | _ => fa), ncl := 1, T := [(cP0, (PyProof.Rows.envOfC "law" (defScope s_law) 0 0 .none).qual ++ "<lambda>")] }
  have hdef : ∀ (i : Nat) (fi : FnIR), W.pr.fns[i]? = some fi → DefOk W cc i fi := by
    intro i fi hi
    have hi : fns[i]? = some fi := hi
    match i, hi with
    | 0, hi => cases hi; exact ⟨⟨_, _, s_law, N_law, some (cc0, (PyProof.Rows.envOfC "law" (defScope s_law) 0 0 .none).qual), F0, sc_law, ck_law _ _, rfl, rfl, by decide, fun c q e => by cases e; exact ⟨rfl, rfl, cP0, TB (cc0, cP0) (by simp), by simp [W], fun p hp _ => by simp only [W, List.mem_cons, List.not_mem_nil, or_false] at hp; subst hp; rfl⟩⟩⟩
    | 1, hi => cases hi; exact ⟨⟨_, _, s_law_begun, N_law_begun, none, F1, sc_law_begun, ck_law_begun, rfl, rfl, by decide, fun c q e => nomatch e⟩⟩
    | 2, hi => cases hi; exact ⟨⟨_, _, s_law_text, N_law_text, none, F2, sc_law_text, ck_law_text, rfl, rfl, by decide, fun c q e => nomatch e⟩⟩
    | 3, hi => cases hi; exact ⟨⟨_, _, s_law_tree, N_law_tree, none, F3, sc_law_tree, ck_law_tree, rfl, rfl, by decide, fun c q e => nomatch e⟩⟩
    | 4, hi => cases hi; exact ⟨⟨_, _, s_law_take, N_law_take, none, F4, sc_law_take, ck_law_take, rfl, rfl, by decide, fun c q e => nomatch e⟩⟩
    | 5, hi => cases hi; exact ⟨⟨_, _, s_law_wide, N_law_wide, none, F5, sc_law_wide, ck_law_wide, rfl, rfl, by decide, fun c q e => nomatch e⟩⟩
    | 6, hi => cases hi; exact ⟨⟨_, _, s_law_spoilt, N_law_spoilt, none, F6, sc_law_spoilt, ck_law_spoilt, rfl, rfl, by decide, fun c q e => nomatch e⟩⟩
    | 7, hi => cases hi; exact ⟨⟨_, _, s_law_alike, N_law_alike, none, F7, sc_law_alike, ck_law_alike, rfl, rfl, by decide, fun c q e => nomatch e⟩⟩
    | 8, hi => cases hi; exact ⟨⟨_, _, s_law_read, N_law_read, none, F8, sc_law_read, ck_law_read, rfl, rfl, by decide, fun c q e => nomatch e⟩⟩
    | 9, hi => cases hi; exact ⟨⟨_, _, s_read, N_read, none, F9, sc_read, ck_read, rfl, rfl, by decide, fun c q e => nomatch e⟩⟩
    | 10, hi => cases hi; exact ⟨⟨_, _, s_law_grown, N_law_grown, none, F10, sc_law_grown, ck_law_grown, rfl, rfl, by decide, fun c q e => nomatch e⟩⟩
    | 11, hi => cases hi; exact ⟨⟨_, _, s_law_part, N_law_part, none, F11, sc_law_part, ck_law_part, rfl, rfl, by decide, fun c q e => nomatch e⟩⟩
    | 12, hi => cases hi; exact ⟨⟨_, _, s_law_places, N_law_places, none, F12, sc_law_places, ck_law_places, rfl, rfl, by decide, fun c q e => nomatch e⟩⟩
    | 13, hi => cases hi; exact ⟨⟨_, _, s_need_tree, N_need_tree, none, F13, sc_need_tree, ck_need_tree, rfl, rfl, by decide, fun c q e => nomatch e⟩⟩
    | 14, hi => cases hi; exact ⟨⟨_, _, s_Signs_init, N_Signs_init, none, F14, sc_Signs_init, ck_Signs_init, rfl, rfl, by decide, fun c q e => nomatch e⟩⟩
    | 15, hi => cases hi; exact ⟨⟨_, _, s_Signs_whole, N_Signs_whole, none, F15, sc_Signs_whole, ck_Signs_whole, rfl, rfl, by decide, fun c q e => nomatch e⟩⟩
    | 16, hi => cases hi; exact ⟨⟨_, _, s_is_node, N_is_node, none, F16, sc_is_node, ck_is_node, rfl, rfl, by decide, fun c q e => nomatch e⟩⟩
    | 17, hi => cases hi; exact ⟨⟨_, _, s_Signs_part, N_Signs_part, none, F17, sc_Signs_part, ck_Signs_part, rfl, rfl, by decide, fun c q e => nomatch e⟩⟩
    | 18, hi => cases hi; exact ⟨⟨_, _, s_is_label, N_is_label, none, F18, sc_is_label, ck_is_label, rfl, rfl, by decide, fun c q e => nomatch e⟩⟩
    | 19, hi => cases hi; exact ⟨⟨_, _, s_Signs_here, N_Signs_here, none, F19, sc_Signs_here, ck_Signs_here, rfl, rfl, by decide, fun c q e => nomatch e⟩⟩
    | 20, hi => cases hi; exact ⟨⟨_, _, s_Signs_take, N_Signs_take, none, F20, sc_Signs_take, ck_Signs_take, rfl, rfl, by decide, fun c q e => nomatch e⟩⟩
    | 21, hi => cases hi; exact ⟨⟨_, _, s_Signs_do, N_Signs_do, none, F21, sc_Signs_do, ck_Signs_do, rfl, rfl, by decide, fun c q e => nomatch e⟩⟩
    | i + 22, hi => cases hi
  have hW : WOk W cc := by
    constructor
    · intro x i hx
      have hx : List.lookup x [(("law" : Str), f_law), (("_law_begun" : Str), f_law_begun), (("_law_text" : Str), f_law_text), (("_law_tree" : Str), f_law_tree), (("_law_take" : Str), f_law_take), (("_law_wide" : Str), f_law_wide), (("_law_spoilt" : Str), f_law_spoilt), (("_law_alike" : Str), f_law_alike), (("_law_read" : Str), f_law_read), (("read" : Str), f_read), (("_law_grown" : Str), f_law_grown), (("_law_part" : Str), f_law_part), (("_law_places" : Str), f_law_places), (("need_tree" : Str), f_need_tree), (("is_node" : Str), f_is_node), (("is_label" : Str), f_is_label)] = some i := hx
      rw [lookupP] at hx; by_cases hq : x = ("law" : Str)
      · rw [if_pos hq] at hx; cases hx; subst hq; exact ⟨PySem.W.mg_of X G a0, k0, _, rfl⟩
      rw [if_neg hq] at hx; clear hq
      rw [lookupP] at hx; by_cases hq : x = ("_law_begun" : Str)
      · rw [if_pos hq] at hx; cases hx; subst hq; exact ⟨PySem.W.mg_of X G a1, k1, _, rfl⟩
      rw [if_neg hq] at hx; clear hq
      rw [lookupP] at hx; by_cases hq : x = ("_law_text" : Str)
      · rw [if_pos hq] at hx; cases hx; subst hq; exact ⟨PySem.W.mg_of X G a2, k2, _, rfl⟩
      rw [if_neg hq] at hx; clear hq
      rw [lookupP] at hx; by_cases hq : x = ("_law_tree" : Str)
      · rw [if_pos hq] at hx; cases hx; subst hq; exact ⟨PySem.W.mg_of X G a3, k3, _, rfl⟩
      rw [if_neg hq] at hx; clear hq
      rw [lookupP] at hx; by_cases hq : x = ("_law_take" : Str)
      · rw [if_pos hq] at hx; cases hx; subst hq; exact ⟨PySem.W.mg_of X G a4, k4, _, rfl⟩
      rw [if_neg hq] at hx; clear hq
      rw [lookupP] at hx; by_cases hq : x = ("_law_wide" : Str)
      · rw [if_pos hq] at hx; cases hx; subst hq; exact ⟨PySem.W.mg_of X G a5, k5, _, rfl⟩
      rw [if_neg hq] at hx; clear hq
      rw [lookupP] at hx; by_cases hq : x = ("_law_spoilt" : Str)
      · rw [if_pos hq] at hx; cases hx; subst hq; exact ⟨PySem.W.mg_of X G a6, k6, _, rfl⟩
      rw [if_neg hq] at hx; clear hq
      rw [lookupP] at hx; by_cases hq : x = ("_law_alike" : Str)
      · rw [if_pos hq] at hx; cases hx; subst hq; exact ⟨PySem.W.mg_of X G a7, k7, _, rfl⟩
      rw [if_neg hq] at hx; clear hq
      rw [lookupP] at hx; by_cases hq : x = ("_law_read" : Str)
      · rw [if_pos hq] at hx; cases hx; subst hq; exact ⟨PySem.W.mg_of X G a8, k8, _, rfl⟩
      rw [if_neg hq] at hx; clear hq
      rw [lookupP] at hx; by_cases hq : x = ("read" : Str)
      · rw [if_pos hq] at hx; cases hx; subst hq; exact ⟨PySem.W.mg_of X G a9, k9, _, rfl⟩
      rw [if_neg hq] at hx; clear hq
      rw [lookupP] at hx; by_cases hq : x = ("_law_grown" : Str)
      · rw [if_pos hq] at hx; cases hx; subst hq; exact ⟨PySem.W.mg_of X G a10, k10, _, rfl⟩
      rw [if_neg hq] at hx; clear hq
      rw [lookupP] at hx; by_cases hq : x = ("_law_part" : Str)
      · rw [if_pos hq] at hx; cases hx; subst hq; exact ⟨PySem.W.mg_of X G a11, k11, _, rfl⟩
      rw [if_neg hq] at hx; clear hq
      rw [lookupP] at hx; by_cases hq : x = ("_law_places" : Str)
      · rw [if_pos hq] at hx; cases hx; subst hq; exact ⟨PySem.W.mg_of X G a12, k12, _, rfl⟩
      rw [if_neg hq] at hx; clear hq
      rw [lookupP] at hx; by_cases hq : x = ("need_tree" : Str)
      · rw [if_pos hq] at hx; cases hx; subst hq; exact ⟨PySem.W.mg_of X G a13, k13, _, rfl⟩
      rw [if_neg hq] at hx; clear hq
      rw [lookupP] at hx; by_cases hq : x = ("is_node" : Str)
      · rw [if_pos hq] at hx; cases hx; subst hq; exact ⟨PySem.W.mg_of X G a16, k16, _, rfl⟩
      rw [if_neg hq] at hx; clear hq
      rw [lookupP] at hx; by_cases hq : x = ("is_label" : Str)
      · rw [if_pos hq] at hx; cases hx; subst hq; exact ⟨PySem.W.mg_of X G a18, k18, _, rfl⟩
      rw [if_neg hq] at hx; clear hq
      cases hx
    · intro i fi hi
      have hi : fns[i]? = some fi := hi
      match i, hi with
      | 0, hi => cases hi; exact ⟨b0, rfl⟩
      | 1, hi => cases hi; exact ⟨b1, rfl⟩
      | 2, hi => cases hi; exact ⟨b2, rfl⟩
      | 3, hi => cases hi; exact ⟨b3, rfl⟩
      | 4, hi => cases hi; exact ⟨b4, rfl⟩
      | 5, hi => cases hi; exact ⟨b5, rfl⟩
      | 6, hi => cases hi; exact ⟨b6, rfl⟩
      | 7, hi => cases hi; exact ⟨b7, rfl⟩
      | 8, hi => cases hi; exact ⟨b8, rfl⟩
      | 9, hi => cases hi; exact ⟨b9, rfl⟩
      | 10, hi => cases hi; exact ⟨b10, rfl⟩
      | 11, hi => cases hi; exact ⟨b11, rfl⟩
      | 12, hi => cases hi; exact ⟨b12, rfl⟩
      | 13, hi => cases hi; exact ⟨b13, rfl⟩
      | 14, hi => cases hi; exact ⟨b14, rfl⟩
      | 15, hi => cases hi; exact ⟨b15, rfl⟩
      | 16, hi => cases hi; exact ⟨b16, rfl⟩
      | 17, hi => cases hi; exact ⟨b17, rfl⟩
      | 18, hi => cases hi; exact ⟨b18, rfl⟩
      | 19, hi => cases hi; exact ⟨b19, rfl⟩
      | 20, hi => cases hi; exact ⟨b20, rfl⟩
      | 21, hi => cases hi; exact ⟨b21, rfl⟩
      | i + 22, hi => cases hi
    · intro x d hx
      have hx : List.lookup x [(("ANY" : Str), g_ANY), (("DO" : Str), g_DO), (("FIGURES" : Str), g_FIGURES), (("LABELS" : Str), g_LABELS), (("LEAF" : Str), g_LEAF), (("MOST_DEEP" : Str), g_MOST_DEEP), (("MOST_KIDS" : Str), g_MOST_KIDS), (("MOST_PLACES" : Str), g_MOST_PLACES)] = some d := hx
      rw [lookupP] at hx; by_cases hq : x = ("ANY" : Str)
      · rw [if_pos hq] at hx; cases hx; subst hq
        refine ⟨_, .ref T0, PySem.W.mg_of X G g0, rfl, fun H m => ?_⟩
        rw [Rp]; refine ⟨T0, [.str "any"], rfl, .inr ⟨_, _, _, h0, rfl, rfl, (by show 1 ≤ sizeLine; decide), .cons ⟨t0, rfl⟩ .nil⟩, ?_⟩
        rw [Rps]; exact ⟨_, _, rfl, (by first | (rw [Rp]; done) | (rw [Rp]; rfl)), by rw [Rps]⟩
      rw [if_neg hq] at hx; clear hq
      rw [lookupP] at hx; by_cases hq : x = ("DO" : Str)
      · rw [if_pos hq] at hx; cases hx; subst hq
        exact ⟨_, .str "do", PySem.W.mg_of X G g1, ⟨t1, rfl⟩, fun H m => by first | (rw [Rp]; done) | (rw [Rp]; rfl)⟩
      rw [if_neg hq] at hx; clear hq
      rw [lookupP] at hx; by_cases hq : x = ("FIGURES" : Str)
      · rw [if_pos hq] at hx; cases hx; subst hq
        exact ⟨_, .str "0123456789", PySem.W.mg_of X G g2, ⟨t2, rfl⟩, fun H m => by first | (rw [Rp]; done) | (rw [Rp]; rfl)⟩
      rw [if_neg hq] at hx; clear hq
      rw [lookupP] at hx; by_cases hq : x = ("LABELS" : Str)
      · rw [if_pos hq] at hx; cases hx; subst hq
        exact ⟨_, .str "abcdef", PySem.W.mg_of X G g3, ⟨t3, rfl⟩, fun H m => by first | (rw [Rp]; done) | (rw [Rp]; rfl)⟩
      rw [if_neg hq] at hx; clear hq
      rw [lookupP] at hx; by_cases hq : x = ("LEAF" : Str)
      · rw [if_pos hq] at hx; cases hx; subst hq
        refine ⟨_, .ref T4, PySem.W.mg_of X G g4, rfl, fun H m => ?_⟩
        rw [Rp]; refine ⟨T4, [.str "leaf"], rfl, .inr ⟨_, _, _, h4, rfl, rfl, (by show 1 ≤ sizeLine; decide), .cons ⟨t4, rfl⟩ .nil⟩, ?_⟩
        rw [Rps]; exact ⟨_, _, rfl, (by first | (rw [Rp]; done) | (rw [Rp]; rfl)), by rw [Rps]⟩
      rw [if_neg hq] at hx; clear hq
      rw [lookupP] at hx; by_cases hq : x = ("MOST_DEEP" : Str)
      · rw [if_pos hq] at hx; cases hx; subst hq
        exact ⟨_, .int 12, PySem.W.mg_of X G g5, ⟨t5, rfl⟩, fun H m => by first | (rw [Rp]; done) | (rw [Rp]; rfl)⟩
      rw [if_neg hq] at hx; clear hq
      rw [lookupP] at hx; by_cases hq : x = ("MOST_KIDS" : Str)
      · rw [if_pos hq] at hx; cases hx; subst hq
        exact ⟨_, .int 3, PySem.W.mg_of X G g6, ⟨t6, rfl⟩, fun H m => by first | (rw [Rp]; done) | (rw [Rp]; rfl)⟩
      rw [if_neg hq] at hx; clear hq
      rw [lookupP] at hx; by_cases hq : x = ("MOST_PLACES" : Str)
      · rw [if_pos hq] at hx; cases hx; subst hq
        exact ⟨_, .int 60, PySem.W.mg_of X G g7, ⟨t7, rfl⟩, fun H m => by first | (rw [Rp]; done) | (rw [Rp]; rfl)⟩
      rw [if_neg hq] at hx; clear hq
      cases hx
    · intro x hx
      have hx : x ∈ [("bool" : Str), ("int" : Str), ("isinstance" : Str), ("len" : Str), ("list" : Str), ("min" : Str), ("range" : Str), ("str" : Str), ("tuple" : Str)] := hx
      simp only [List.mem_cons, List.not_mem_nil, or_false] at hx
      rcases hx with rfl | rfl | rfl | rfl | rfl | rfl | rfl | rfl | rfl
      · exact PySem.W.mg_none_of X G z0
      · exact PySem.W.mg_none_of X G z1
      · exact PySem.W.mg_none_of X G z2
      · exact PySem.W.mg_none_of X G z3
      · exact PySem.W.mg_none_of X G z4
      · exact PySem.W.mg_none_of X G z5
      · exact PySem.W.mg_none_of X G z6
      · exact PySem.W.mg_none_of X G z7
      · exact PySem.W.mg_none_of X G z8
    · intro x c hx
      have hx : List.lookup x [(("Signs" : Str), c_Signs)] = some c := hx
      rw [lookupP] at hx; by_cases hq : x = ("Signs" : Str)
      · rw [if_pos hq] at hx; cases hx; subst hq; exact ⟨PySem.W.mg_of X G aC0, (by show 0 < 1; decide), _, rfl⟩
      rw [if_neg hq] at hx; clear hq
      cases hx
    · intro c hc
      have hc : c < 1 := hc
      match c, hc with
      | 0, _ => exact ⟨pg0, hd0, po0, sa0⟩
      | c + 1, hc => exact absurd hc (by omega)
    · intro c f hc hf
      have hc : c < 1 := hc
      have hf : f ∈ [("text" : Str), ("at" : Str), ("kind" : Str)] := hf
      simp only [List.mem_cons, List.not_mem_nil, or_false] at hf
      match c, hc with
      | 0, _ =>
        rcases hf with rfl | rfl | rfl
        · exact n0_0
        · exact n0_1
        · exact n0_2
      | c + 1, hc => exact absurd hc (by omega)
    · intro c f hf
      have hf : ini c = some f := hf
      match c, hf with
      | 0, hf => cases hf; exact ⟨⟨mk0, a14, i14, kc0⟩, _, rfl⟩
      | c + 1, hf => cases hf
    · intro x mi c f hx hc hf
      have hc : c < 1 := hc
      have hx : List.lookup x [(("whole" : Str), m_whole), (("part" : Str), m_part), (("here" : Str), m_here), (("take" : Str), m_take), (("do" : Str), m_do)] = some mi := hx
      have hf : meth c mi = some f := hf
      rw [lookupP] at hx; by_cases hq : x = ("whole" : Str)
      · rw [if_pos hq] at hx; cases hx; subst hq
        match c, hc, hf with
        | 0, _, hf => cases hf; exact ⟨⟨a15, i15, k15⟩, _, rfl⟩
        | c + 1, hc, _ => exact absurd hc (by omega)
      rw [if_neg hq] at hx; clear hq
      rw [lookupP] at hx; by_cases hq : x = ("part" : Str)
      · rw [if_pos hq] at hx; cases hx; subst hq
        match c, hc, hf with
        | 0, _, hf => cases hf; exact ⟨⟨a17, i17, k17⟩, _, rfl⟩
        | c + 1, hc, _ => exact absurd hc (by omega)
      rw [if_neg hq] at hx; clear hq
      rw [lookupP] at hx; by_cases hq : x = ("here" : Str)
      · rw [if_pos hq] at hx; cases hx; subst hq
        match c, hc, hf with
        | 0, _, hf => cases hf; exact ⟨⟨a19, i19, k19⟩, _, rfl⟩
        | c + 1, hc, _ => exact absurd hc (by omega)
      rw [if_neg hq] at hx; clear hq
      rw [lookupP] at hx; by_cases hq : x = ("take" : Str)
      · rw [if_pos hq] at hx; cases hx; subst hq
        match c, hc, hf with
        | 0, _, hf => cases hf; exact ⟨⟨a20, i20, k20⟩, _, rfl⟩
        | c + 1, hc, _ => exact absurd hc (by omega)
      rw [if_neg hq] at hx; clear hq
      rw [lookupP] at hx; by_cases hq : x = ("do" : Str)
      · rw [if_pos hq] at hx; cases hx; subst hq
        match c, hc, hf with
        | 0, _, hf => cases hf; exact ⟨⟨a21, i21, k21⟩, _, rfl⟩
        | c + 1, hc, _ => exact absurd hc (by omega)
      rw [if_neg hq] at hx; clear hq
      cases hx
    · intro x hx
      have hx : some ("_law_told" : Str) = some x := hx
      cases hx
      have FG := fun_mk (st := s_told) lG cG kG
      have bG := FG.binds (ps := ["_law_work"]) fun _ _ _ _ _ _ us hl => match us, hl with | [_], _ => rfl
      refine told_ok (W := W) (E := fun i => match i with | 0 => Z_BadTree | 1 => Z_BadBook | 2 => Z_BadPlace | 3 => Z_TooBig | 4 => Z_TooMany | 5 => Z_NotKeeping | 6 => Z_BadState | 7 => Z_BadPairs | 8 => Z_BadText | _ => fa) (TA := ZT) (PySem.W.mg_of X G aG) kG lG cG bG sc_told bo_told ⟨nd_told, lo_told, gl_told.1, gl_told.2.1, PySem.W.mg_none_of X G zisi, PySem.W.mg_none_of X G zval, nine ⟨PySem.W.mg_of X G aZ_BadTree, PySem.W.mg_of X G aZ_BadBook, PySem.W.mg_of X G aZ_BadPlace, PySem.W.mg_of X G aZ_TooBig, PySem.W.mg_of X G aZ_TooMany, PySem.W.mg_of X G aZ_NotKeeping, PySem.W.mg_of X G aZ_BadState, PySem.W.mg_of X G aZ_BadPairs, PySem.W.mg_of X G aZ_BadText⟩⟩ gl_told.2.2 (PySem.W.mg_of X G aZT) fun c w fo hw => ?_
      have hw : tw c = some (w, fo) := hw
      match c, hw with
      | 0, hw => cases hw
      | 1, hw =>
        cases hw
        refine ⟨0, EF.tc ⟨gaZ_BadTree, ggZ_BadTree, sbZ_BadTree, hdZ_BadTree, clZ_BadTree, hnZ, htZ, moZ_BadTree, npZ_BadTree, nnZ_BadTree, svZ_BadTree, stZ_BadTree, icZT, tyZT, bZT⟩ (by decide) (nine ⟨kit_self, kit_ne neZ_BadTree_BadBook icZ_BadBook tyZ_BadBook suZ_BadTree_BadBook, kit_ne neZ_BadTree_BadPlace icZ_BadPlace tyZ_BadPlace suZ_BadTree_BadPlace, kit_ne neZ_BadTree_TooBig icZ_TooBig tyZ_TooBig suZ_BadTree_TooBig, kit_ne neZ_BadTree_TooMany icZ_TooMany tyZ_TooMany suZ_BadTree_TooMany, kit_ne neZ_BadTree_NotKeeping icZ_NotKeeping tyZ_NotKeeping suZ_BadTree_NotKeeping, kit_ne neZ_BadTree_BadState icZ_BadState tyZ_BadState suZ_BadTree_BadState, kit_ne neZ_BadTree_BadPairs icZ_BadPairs tyZ_BadPairs suZ_BadTree_BadPairs, kit_ne neZ_BadTree_BadText icZ_BadText tyZ_BadText suZ_BadTree_BadText⟩), by decide +kernel, by decide +kernel⟩
      | 2, hw =>
        cases hw
        refine ⟨8, EF.tc ⟨gaZ_BadText, ggZ_BadText, sbZ_BadText, hdZ_BadText, clZ_BadText, hnZ, htZ, moZ_BadText, npZ_BadText, nnZ_BadText, svZ_BadText, stZ_BadText, icZT, tyZT, bZT⟩ (by decide) (nine ⟨kit_ne neZ_BadText_BadTree icZ_BadTree tyZ_BadTree suZ_BadText_BadTree, kit_ne neZ_BadText_BadBook icZ_BadBook tyZ_BadBook suZ_BadText_BadBook, kit_ne neZ_BadText_BadPlace icZ_BadPlace tyZ_BadPlace suZ_BadText_BadPlace, kit_ne neZ_BadText_TooBig icZ_TooBig tyZ_TooBig suZ_BadText_TooBig, kit_ne neZ_BadText_TooMany icZ_TooMany tyZ_TooMany suZ_BadText_TooMany, kit_ne neZ_BadText_NotKeeping icZ_NotKeeping tyZ_NotKeeping suZ_BadText_NotKeeping, kit_ne neZ_BadText_BadState icZ_BadState tyZ_BadState suZ_BadText_BadState, kit_ne neZ_BadText_BadPairs icZ_BadPairs tyZ_BadPairs suZ_BadText_BadPairs, kit_self⟩), by decide +kernel, by decide +kernel⟩
      | c + 3, hw => cases hw
    · intro x c hx
      have hx : List.lookup x ([] : List (Str × Nat)) = some c := hx
      cases hx
    · intro x c f hx
      have hx : List.lookup x ([(("BadTree" : Str), (c_BadTree, n_place)), (("BadText" : Str), (c_BadText, n_number))] : List (Str × (Nat × Str))) = some (c, f) := hx
      rw [lookupP] at hx; by_cases hq : x = ("BadTree" : Str)
      · rw [if_pos hq] at hx; cases hx; subst hq
        have FI := fun_mk (st := s_BadTreeI) lIZ_BadTree cIZ_BadTree kIZ_BadTree
        have bI := FI.binds (ps := ["self", "place"]) fun _ _ _ _ _ _ us hl => match us, hl with | [_, _], _ => rfl
        have oC : OexC K Z_BadTree := ⟨⟨_, _, _, _, _, _, _, _, _, _, _, _, _, _, _, xLZ_BadTree, by rfl⟩, saZ_BadTree, sbZ_BadTree, tyZ_BadTree, kpZ_BadTree⟩
        refine ⟨PySem.W.mg_of X G aZ_BadTree, oC, fI_BadTree, _, ["self", "place"], aIZ_BadTree, tIZ_BadTree, bI, ?_⟩
        exact ini_ok (b := "TellError") (f := "place") FI sc_BadTreeI ck_BadTreeI (.inl (by decide +kernel)) (.inl (by decide +kernel)) (by decide +kernel) (by decide) (by decide) (by decide) (by decide) (by decide) (PySem.W.mg_of X G aZT) spZT rdZT fiZT oC npZ_BadTree
      rw [if_neg hq] at hx; clear hq
      rw [lookupP] at hx; by_cases hq : x = ("BadText" : Str)
      · rw [if_pos hq] at hx; cases hx; subst hq
        have FI := fun_mk (st := s_BadTextI) lIZ_BadText cIZ_BadText kIZ_BadText
        have bI := FI.binds (ps := ["self", "number"]) fun _ _ _ _ _ _ us hl => match us, hl with | [_, _], _ => rfl
        have oC : OexC K Z_BadText := ⟨⟨_, _, _, _, _, _, _, _, _, _, _, _, _, _, _, xLZ_BadText, by rfl⟩, saZ_BadText, sbZ_BadText, tyZ_BadText, kpZ_BadText⟩
        refine ⟨PySem.W.mg_of X G aZ_BadText, oC, fI_BadText, _, ["self", "number"], aIZ_BadText, tIZ_BadText, bI, ?_⟩
        exact ini_ok (b := "TellError") (f := "number") FI sc_BadTextI ck_BadTextI (.inl (by decide +kernel)) (.inl (by decide +kernel)) (by decide +kernel) (by decide) (by decide) (by decide) (by decide) (by decide) (PySem.W.mg_of X G aZT) spZT rdZT fiZT oC nnZ_BadText
      rw [if_neg hq] at hx; clear hq
      cases hx
  exact law_okL (Z.law_ok (W := W) (lv_all hW hdef kmax) (i := f_law) (fi := ⟨1, 8, b_law⟩) rfl rfl hev)
end Law
open PySem PySem.W PyProof.Rows
theorem PySem.Challenge.cw_treetellers_k20_texts_of_no_tree_holds : PySem.Challenge.rw_treetellers_k20_texts_of_no_tree.Holds := by
  w_on; o_law; k_head; (case hw => w_witness2)
  k_fill
  refine Z.walk_tabs (l := PySem.Challenge.rw_treetellers_k20_texts_of_no_tree) (n := 63) (k := 4 * Law.KMAX + 1) (x := "_law_script") rfl (by decide) rfl ⟨rfl, by decide, by decide⟩ (fun w h Y => by first | exact PySem.W.kIn_of Y | exact PySem.W.km_in_of Y) ?F
  case F =>
    intro w mg fa h KX G hmg tabs
    refine' Law.all_mk KX G hmg tabs (by kernel_rfl) (by decide +kernel) ?zq_aC0 ?zq_pg0 ?zq_hd0 ?zq_po0 ?zq_sa0 ?zq_mk0 ?zq_kc0 ?zq_n0_0 ?zq_n0_1 ?zq_n0_2 ?zq_aZT ?zq_icZT ?zq_tyZT ?zq_bZT ?zq_hnZ ?zq_htZ ?zq_spZT ?zq_rdZT ?zq_fiZT ?zq_aZ_BadTree ?zq_icZ_BadTree ?zq_tyZ_BadTree ?zq_aZ_BadBook ?zq_icZ_BadBook ?zq_tyZ_BadBook ?zq_aZ_BadPlace ?zq_icZ_BadPlace ?zq_tyZ_BadPlace ?zq_aZ_TooBig ?zq_icZ_TooBig ?zq_tyZ_TooBig ?zq_aZ_TooMany ?zq_icZ_TooMany ?zq_tyZ_TooMany ?zq_aZ_NotKeeping ?zq_icZ_NotKeeping ?zq_tyZ_NotKeeping ?zq_aZ_BadState ?zq_icZ_BadState ?zq_tyZ_BadState ?zq_aZ_BadPairs ?zq_icZ_BadPairs ?zq_tyZ_BadPairs ?zq_aZ_BadText ?zq_icZ_BadText ?zq_tyZ_BadText ?zq_gaZ_BadTree ?zq_ggZ_BadTree ?zq_sbZ_BadTree ?zq_hdZ_BadTree ?zq_clZ_BadTree ?zq_moZ_BadTree ?zq_npZ_BadTree ?zq_nnZ_BadTree ?zq_svZ_BadTree ?zq_stZ_BadTree ?zq_kpZ_BadTree ?zq_neZ_BadTree_BadBook ?zq_suZ_BadTree_BadBook ?zq_neZ_BadTree_BadPlace ?zq_suZ_BadTree_BadPlace ?zq_neZ_BadTree_TooBig ?zq_suZ_BadTree_TooBig ?zq_neZ_BadTree_TooMany ?zq_suZ_BadTree_TooMany ?zq_neZ_BadTree_NotKeeping ?zq_suZ_BadTree_NotKeeping ?zq_neZ_BadTree_BadState ?zq_suZ_BadTree_BadState ?zq_neZ_BadTree_BadPairs ?zq_suZ_BadTree_BadPairs ?zq_neZ_BadTree_BadText ?zq_suZ_BadTree_BadText ?zq_gaZ_BadText ?zq_ggZ_BadText ?zq_sbZ_BadText ?zq_hdZ_BadText ?zq_clZ_BadText ?zq_moZ_BadText ?zq_npZ_BadText ?zq_nnZ_BadText ?zq_svZ_BadText ?zq_stZ_BadText ?zq_kpZ_BadText ?zq_neZ_BadText_BadTree ?zq_suZ_BadText_BadTree ?zq_neZ_BadText_BadBook ?zq_suZ_BadText_BadBook ?zq_neZ_BadText_BadPlace ?zq_suZ_BadText_BadPlace ?zq_neZ_BadText_TooBig ?zq_suZ_BadText_TooBig ?zq_neZ_BadText_TooMany ?zq_suZ_BadText_TooMany ?zq_neZ_BadText_NotKeeping ?zq_suZ_BadText_NotKeeping ?zq_neZ_BadText_BadState ?zq_suZ_BadText_BadState ?zq_neZ_BadText_BadPairs ?zq_suZ_BadText_BadPairs ?zq_xLZ_BadTree ?zq_saZ_BadTree ?zq_aIZ_BadTree ?zq_tIZ_BadTree ?zq_lIZ_BadTree ?zq_cIZ_BadTree ?zq_kIZ_BadTree ?zq_xLZ_BadText ?zq_saZ_BadText ?zq_aIZ_BadText ?zq_tIZ_BadText ?zq_lIZ_BadText ?zq_cIZ_BadText ?zq_kIZ_BadText ?zq_aG ?zq_lG ?zq_cG ?zq_kG ?zq_zisi ?zq_zval ?zq_a0 ?zq_l0 ?zq_c0 ?zq_k0 ?zq_a1 ?zq_l1 ?zq_c1 ?zq_k1 ?zq_a2 ?zq_l2 ?zq_c2 ?zq_k2 ?zq_a3 ?zq_l3 ?zq_c3 ?zq_k3 ?zq_a4 ?zq_l4 ?zq_c4 ?zq_k4 ?zq_a5 ?zq_l5 ?zq_c5 ?zq_k5 ?zq_a6 ?zq_l6 ?zq_c6 ?zq_k6 ?zq_a7 ?zq_l7 ?zq_c7 ?zq_k7 ?zq_a8 ?zq_l8 ?zq_c8 ?zq_k8 ?zq_a9 ?zq_l9 ?zq_c9 ?zq_k9 ?zq_a10 ?zq_l10 ?zq_c10 ?zq_k10 ?zq_a11 ?zq_l11 ?zq_c11 ?zq_k11 ?zq_a12 ?zq_l12 ?zq_c12 ?zq_k12 ?zq_a13 ?zq_l13 ?zq_c13 ?zq_k13 ?zq_a14 ?zq_i14 ?zq_l14 ?zq_c14 ?zq_k14 ?zq_a15 ?zq_i15 ?zq_l15 ?zq_c15 ?zq_k15 ?zq_a16 ?zq_l16 ?zq_c16 ?zq_k16 ?zq_a17 ?zq_i17 ?zq_l17 ?zq_c17 ?zq_k17 ?zq_a18 ?zq_l18 ?zq_c18 ?zq_k18 ?zq_a19 ?zq_i19 ?zq_l19 ?zq_c19 ?zq_k19 ?zq_a20 ?zq_i20 ?zq_l20 ?zq_c20 ?zq_k20 ?zq_a21 ?zq_i21 ?zq_l21 ?zq_c21 ?zq_k21 ?zq_g0 ?zq_h0 ?zq_g1 ?zq_g2 ?zq_g3 ?zq_g4 ?zq_h4 ?zq_g5 ?zq_g6 ?zq_g7 ?zq_z0 ?zq_z1 ?zq_z2 ?zq_z3 ?zq_z4 ?zq_z5 ?zq_z6 ?zq_z7 ?zq_z8 Law.KMAX Law.FUEL Law.law_ev
    (case zq_aC0 => k_is); (case zq_pg0 => k_is); (case zq_hd0 => k_is); (case zq_po0 => k_is); (case zq_sa0 => k_is); (case zq_mk0 => k_is)
    (case zq_kc0 => k_is); (case zq_n0_0 => k_is); (case zq_n0_1 => k_is); (case zq_n0_2 => k_is); (case zq_aZT => k_is); (case zq_icZT => k_is)
    (case zq_tyZT => k_is); (case zq_bZT => k_is); (case zq_hnZ => k_is); (case zq_htZ => k_is); (case zq_spZT => k_is); (case zq_rdZT => k_is)
    (case zq_fiZT => k_is); (case zq_aZ_BadTree => k_is); (case zq_icZ_BadTree => k_is); (case zq_tyZ_BadTree => k_is); (case zq_aZ_BadBook => k_is); (case zq_icZ_BadBook => k_is)
    (case zq_tyZ_BadBook => k_is); (case zq_aZ_BadPlace => k_is); (case zq_icZ_BadPlace => k_is); (case zq_tyZ_BadPlace => k_is); (case zq_aZ_TooBig => k_is); (case zq_icZ_TooBig => k_is)
    (case zq_tyZ_TooBig => k_is); (case zq_aZ_TooMany => k_is); (case zq_icZ_TooMany => k_is); (case zq_tyZ_TooMany => k_is); (case zq_aZ_NotKeeping => k_is); (case zq_icZ_NotKeeping => k_is)
    (case zq_tyZ_NotKeeping => k_is); (case zq_aZ_BadState => k_is); (case zq_icZ_BadState => k_is); (case zq_tyZ_BadState => k_is); (case zq_aZ_BadPairs => k_is); (case zq_icZ_BadPairs => k_is)
    (case zq_tyZ_BadPairs => k_is); (case zq_aZ_BadText => k_is); (case zq_icZ_BadText => k_is); (case zq_tyZ_BadText => k_is); (case zq_gaZ_BadTree => k_is); (case zq_ggZ_BadTree => k_is)
    (case zq_sbZ_BadTree => k_is); (case zq_hdZ_BadTree => k_is); (case zq_clZ_BadTree => k_is); (case zq_moZ_BadTree => k_is); (case zq_npZ_BadTree => k_is); (case zq_nnZ_BadTree => k_is)
    (case zq_svZ_BadTree => k_is); (case zq_stZ_BadTree => k_is); (case zq_kpZ_BadTree => k_is); (case zq_neZ_BadTree_BadBook => decide); (case zq_suZ_BadTree_BadBook => k_is); (case zq_neZ_BadTree_BadPlace => decide)
    (case zq_suZ_BadTree_BadPlace => k_is); (case zq_neZ_BadTree_TooBig => decide); (case zq_suZ_BadTree_TooBig => k_is); (case zq_neZ_BadTree_TooMany => decide); (case zq_suZ_BadTree_TooMany => k_is); (case zq_neZ_BadTree_NotKeeping => decide)
    (case zq_suZ_BadTree_NotKeeping => k_is); (case zq_neZ_BadTree_BadState => decide); (case zq_suZ_BadTree_BadState => k_is); (case zq_neZ_BadTree_BadPairs => decide); (case zq_suZ_BadTree_BadPairs => k_is); (case zq_neZ_BadTree_BadText => decide)
    (case zq_suZ_BadTree_BadText => k_is); (case zq_gaZ_BadText => k_is); (case zq_ggZ_BadText => k_is); (case zq_sbZ_BadText => k_is); (case zq_hdZ_BadText => k_is); (case zq_clZ_BadText => k_is)
    (case zq_moZ_BadText => k_is); (case zq_npZ_BadText => k_is); (case zq_nnZ_BadText => k_is); (case zq_svZ_BadText => k_is); (case zq_stZ_BadText => k_is); (case zq_kpZ_BadText => k_is)
    (case zq_neZ_BadText_BadTree => decide); (case zq_suZ_BadText_BadTree => k_is); (case zq_neZ_BadText_BadBook => decide); (case zq_suZ_BadText_BadBook => k_is); (case zq_neZ_BadText_BadPlace => decide); (case zq_suZ_BadText_BadPlace => k_is)
    (case zq_neZ_BadText_TooBig => decide); (case zq_suZ_BadText_TooBig => k_is); (case zq_neZ_BadText_TooMany => decide); (case zq_suZ_BadText_TooMany => k_is); (case zq_neZ_BadText_NotKeeping => decide); (case zq_suZ_BadText_NotKeeping => k_is)
    (case zq_neZ_BadText_BadState => decide); (case zq_suZ_BadText_BadState => k_is); (case zq_neZ_BadText_BadPairs => decide); (case zq_suZ_BadText_BadPairs => k_is); (case zq_xLZ_BadTree => k_is); (case zq_saZ_BadTree => k_is)
    (case zq_aIZ_BadTree => k_is); (case zq_tIZ_BadTree => k_is); (case zq_lIZ_BadTree => k_is); (case zq_cIZ_BadTree => k_is); (case zq_kIZ_BadTree => k_is); (case zq_xLZ_BadText => k_is)
    (case zq_saZ_BadText => k_is); (case zq_aIZ_BadText => k_is); (case zq_tIZ_BadText => k_is); (case zq_lIZ_BadText => k_is); (case zq_cIZ_BadText => k_is); (case zq_kIZ_BadText => k_is)
    (case zq_aG => k_is); (case zq_lG => k_is); (case zq_cG => k_is); (case zq_kG => k_is); (case zq_zisi => k_is); (case zq_zval => k_is)
    (case zq_a0 => k_is); (case zq_l0 => k_is); (case zq_c0 => k_is); (case zq_k0 => k_is); (case zq_a1 => k_is); (case zq_l1 => k_is)
    (case zq_c1 => k_is); (case zq_k1 => k_is); (case zq_a2 => k_is); (case zq_l2 => k_is); (case zq_c2 => k_is); (case zq_k2 => k_is)
    (case zq_a3 => k_is); (case zq_l3 => k_is); (case zq_c3 => k_is); (case zq_k3 => k_is); (case zq_a4 => k_is); (case zq_l4 => k_is)
    (case zq_c4 => k_is); (case zq_k4 => k_is); (case zq_a5 => k_is); (case zq_l5 => k_is); (case zq_c5 => k_is); (case zq_k5 => k_is)
    (case zq_a6 => k_is); (case zq_l6 => k_is); (case zq_c6 => k_is); (case zq_k6 => k_is); (case zq_a7 => k_is); (case zq_l7 => k_is)
    (case zq_c7 => k_is); (case zq_k7 => k_is); (case zq_a8 => k_is); (case zq_l8 => k_is); (case zq_c8 => k_is); (case zq_k8 => k_is)
    (case zq_a9 => k_is); (case zq_l9 => k_is); (case zq_c9 => k_is); (case zq_k9 => k_is); (case zq_a10 => k_is); (case zq_l10 => k_is)
    (case zq_c10 => k_is); (case zq_k10 => k_is); (case zq_a11 => k_is); (case zq_l11 => k_is); (case zq_c11 => k_is); (case zq_k11 => k_is)
    (case zq_a12 => k_is); (case zq_l12 => k_is); (case zq_c12 => k_is); (case zq_k12 => k_is); (case zq_a13 => k_is); (case zq_l13 => k_is)
    (case zq_c13 => k_is); (case zq_k13 => k_is); (case zq_a14 => k_is); (case zq_i14 => k_is); (case zq_l14 => k_is); (case zq_c14 => k_is)
    (case zq_k14 => k_is); (case zq_a15 => k_is); (case zq_i15 => k_is); (case zq_l15 => k_is); (case zq_c15 => k_is); (case zq_k15 => k_is)
    (case zq_a16 => k_is); (case zq_l16 => k_is); (case zq_c16 => k_is); (case zq_k16 => k_is); (case zq_a17 => k_is); (case zq_i17 => k_is)
    (case zq_l17 => k_is); (case zq_c17 => k_is); (case zq_k17 => k_is); (case zq_a18 => k_is); (case zq_l18 => k_is); (case zq_c18 => k_is)
    (case zq_k18 => k_is); (case zq_a19 => k_is); (case zq_i19 => k_is); (case zq_l19 => k_is); (case zq_c19 => k_is); (case zq_k19 => k_is)
    (case zq_a20 => k_is); (case zq_i20 => k_is); (case zq_l20 => k_is); (case zq_c20 => k_is); (case zq_k20 => k_is); (case zq_a21 => k_is)
    (case zq_i21 => k_is); (case zq_l21 => k_is); (case zq_c21 => k_is); (case zq_k21 => k_is); (case zq_g0 => k_is); (case zq_h0 => k_is)
    (case zq_g1 => k_is); (case zq_g2 => k_is); (case zq_g3 => k_is); (case zq_g4 => k_is); (case zq_h4 => k_is); (case zq_g5 => k_is)
    (case zq_g6 => k_is); (case zq_g7 => k_is); (case zq_z0 => k_is); (case zq_z1 => k_is); (case zq_z2 => k_is); (case zq_z3 => k_is)
    (case zq_z4 => k_is); (case zq_z5 => k_is); (case zq_z6 => k_is); (case zq_z7 => k_is); (case zq_z8 => k_is)
