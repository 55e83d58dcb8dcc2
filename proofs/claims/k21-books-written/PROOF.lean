import PyProof.Rows.All
import Wide.All
import OpenK.AllK
import Wide.FinOn
import HandS.ForMost
import HandS.ForExc
import HandS.TupAny
import HandS.TupMul
import HandS.Style
import HandS.IsInst
import HandS.Deep
import HandS.Conv
import HandS.Codes
import HandS.RaiseMore
import PyProof.ListStr
import HandS.Iter
import KE.KDictKeyed
import KE.KDictWalk
import PyProof.Rows.TupTab
import PyProof.AutoSeq1
import PyProof.SliceStr2
import KE.KRevSl
import HandS.ExcInit
import PySem.Challenge.RW_treetellers_k21_books_written
set_option Elab.async false
set_option linter.all false
set_option maxRecDepth 100000
set_option maxHeartbeats 4000000
/-! Z: a small evaluator of a part of Python over data, and (behind) that the machine does what it says. -/
namespace Z
open PySem L2

/-! ### data -/
abbrev Tx := List Nat
def sOf (x : Tx) : Str := Str.mk x.toArray
inductive D where
  | non | bl (b : Bool) | int (i : Int) | str (x : Tx) | tup (xs : List D) | loc (n : Nat)
  /-- a list that stays as it is (the script) -/
  | fl (xs : List D)
mutual
def D.beq : D → D → Bool
  | .non, .non => true
  | .bl a, .bl b => a == b
  | .int a, .int b => a == b
  | .str a, .str b => a == b
  | .tup a, .tup b => D.beqs a b
  | .loc a, .loc b => a == b
  | .fl a, .fl b => D.beqs a b
  | _, _ => false
def D.beqs : List D → List D → Bool
  | [], [] => true
  | x :: xs, y :: ys => D.beq x y && D.beqs xs ys
  | _, _ => false
end
mutual
theorem D.eq_of : ∀ a b : D, D.beq a b = true → a = b
  | .non, b, h => by cases b <;> simp_all [D.beq]
  | .bl x, b, h => by cases b <;> simp_all [D.beq]
  | .int x, b, h => by cases b <;> simp_all [D.beq]
  | .str x, b, h => by cases b <;> simp_all [D.beq]
  | .tup xs, b, h => by
    cases b with
    | tup ys => rw [D.beq] at h; rw [D.eqs_of xs ys h]
    | _ => simp [D.beq] at h
  | .loc x, b, h => by cases b <;> simp_all [D.beq]
  | .fl xs, b, h => by
    cases b with
    | fl ys => rw [D.beq] at h; rw [D.eqs_of xs ys h]
    | _ => simp [D.beq] at h
theorem D.eqs_of : ∀ a b : List D, D.beqs a b = true → a = b
  | [], [], _ => rfl
  | [], _ :: _, h => by simp [D.beqs] at h
  | _ :: _, [], h => by simp [D.beqs] at h
  | x :: xs, y :: ys, h => by
    rw [D.beqs, Bool.and_eq_true] at h
    rw [D.eq_of x y h.1, D.eqs_of xs ys h.2]
end
mutual
theorem D.beq_rf : ∀ a : D, D.beq a a = true
  | .non => rfl
  | .bl x => by simp [D.beq]
  | .int x => by simp [D.beq]
  | .str x => by simp [D.beq]
  | .tup xs => by rw [D.beq]; exact D.beqs_rf xs
  | .loc x => by simp [D.beq]
  | .fl xs => by rw [D.beq]; exact D.beqs_rf xs
theorem D.beqs_rf : ∀ a : List D, D.beqs a a = true
  | [] => rfl
  | x :: xs => by rw [D.beqs, D.beq_rf x, D.beqs_rf xs]; rfl
end
instance : DecidableEq D := fun a b => if h : D.beq a b = true then isTrue (D.eq_of a b h) else isFalse fun e => h (by rw [e]; exact D.beq_rf b)

/-- a thing that may change -/
inductive Cell where
  | lst (xs : List D) | ins (c : Nat) (fs : List (Str × D))
  /-- a dict whose keys are tuples; one whose keys are ints and texts -/
  | dct (kvs : List (D × D)) | dck (kvs : List (D × D))
deriving DecidableEq
abbrev Sto := List Cell
abbrev Env := List (Option D)
/-- an exception -/
structure Ex where
  c : Nat
  f : Option (Str × D)
inductive R (α : Type) where
  | ok (a : α) (st : Sto) | exc (e : Ex) (st : Sto) | stuck
def R.bind {α β : Type} : R α → (α → Sto → R β) → R β
  | .ok a st, f => f a st
  | .exc e st, _ => .exc e st
  | .stuck, _ => .stuck
/-- an exception is not carried -/
def R.noex {α : Type} : R α → R α
  | .ok a st => .ok a st
  | _ => .stuck

/-! ### what the pieces of the text are -/
inductive BOp where | add | sub | mul | fdiv | mod
deriving DecidableEq
inductive COp where | eq | ne | lt | le | gt | ge | isN | notN | mem | nmem
deriving DecidableEq
inductive Kd where | bool | int | str | tup | lst
deriving DecidableEq
inductive Bi where | len | int | list | tuple | str | sum
deriving DecidableEq
inductive Me where | append | pop | extend | join | clear | index | split
deriving DecidableEq
inductive IT where | name (i : Nat) | tup (is : List Nat)
mutual
inductive IE where
  | var (i : Nat) | cst (d : D) | gl (d : D)
  | tup (es : IEs) | lst (es : IEs)
  | bin (o : BOp) (a b : IE) | cmp (o : COp) (a b : IE)
  | and (a b : IE) | or (a b : IE) | not (a : IE) | ite (c a b : IE)
  | ix (a i : IE) | sl (a : IE) (lo hi : IO) | rev (a : IE)
  | fld (a : IE) (f : Str) | isi (a : IE) (k : Kd) | bi (b : Bi) (a : IE)
  | call (f : Nat) (es : IEs) | mk (c : Nat) (es : IEs)
  | me0 (m : Me) (a : IE) | me1 (m : Me) (a b : IE) | om (x : Str) (m : Nat) (a : IE) (es : IEs)
  | comp (e : IE) (t : IT) (own : List Nat) (it : II) (c : IO)
  | dnew (t : Bool) | cch (o o' : COp) (a b c : IE) | lrng1 (a : IE) | lrng2 (a b : IE)
inductive IEs where
  | nil | cons (e : IE) (r : IEs)
inductive IO where
  | none | some (e : IE)
inductive II where
  | it (e : IE) | rng1 (e : IE) | rng2 (a b : IE) | enum (e : IE)
end
mutual
inductive IS where
  | asg (t : IT) (e : IE) | setf (a : IE) (f : Str) (e : IE) | seti (a i e : IE)
  | expr (e : IE) | ret (e : IE) | retN | pass | brk | cont
  | ite (c : IE) (a b : ISs) | whl (c : IE) (b : ISs) | for_ (t : IT) (it : II) (b : ISs)
  | tryN (b : ISs)
  | never
inductive ISs where
  | nil | cons (s : IS) (r : ISs)
end

/-! ### what they do -/
/-- the functions that may be called: a def, a class's making (its __init__), a class's method -/
def putF' (f : Str) (v : D) : List (Str × D) → List (Str × D)
  | [] => [(f, v)]
  | (g, u) :: r => if g = f then (g, v) :: r else (g, u) :: putF' f v r
structure Cl where
  call : Nat → List D → Sto → R D
  ini : Nat → Option Nat
  meth : Nat → Nat → Option Nat

def LIM : Nat := 100000
mutual
def toPW (f : Nat → Option PyData) : D → Option PyData
  | .non => some .none
  | .bl b => some (.bool b)
  | .int i => some (.int i)
  | .str x => some (.str (sOf x))
  | .tup xs => match toPWs f xs with | some ps => some (.tuple ps) | none => none
  | .loc k => f k
  | .fl _ => none
def toPWs (f : Nat → Option PyData) : List D → Option (List PyData)
  | [] => some []
  | x :: xs => match toPW f x, toPWs f xs with | some p, some ps => some (p :: ps) | _, _ => none
end
/-- as plain data; lists n deep are seen through -/
def toP (st : Sto) : Nat → D → Option PyData
  | 0 => toPW fun _ => none
  | n + 1 => toPW fun k => match st[k]? with
    | some (.lst xs) => (match toPWs (fun k => toP st n (.loc k)) xs with | some ps => some (.list ps) | none => none)
    | _ => none
mutual
/-- as a key -/
def nkD : D → Option NestedKey
  | .non => some .none
  | .int i => some (.num i)
  | .str x => some (.text (sOf x))
  | .tup ds => (match nkDs ds with | some ks => some (.tup ks) | none => none)
  | _ => none
def nkDs : List D → Option (List NestedKey)
  | [] => some []
  | d :: ds => match nkD d, nkDs ds with | some k, some ks => some (k :: ks) | _, _ => none
end
def keyT (d : D) : Bool := match d with
  | .tup _ => (match nkD d with | some k => decide (k.depth ≤ 8) | none => false)
  | _ => false
def keyK : D → Bool
  | .int _ => true | .str _ => true
  | _ => false
def dGet (kvs : List (D × D)) (k : D) : Option D := (kvs.find? fun p => decide (p.1 = k)).map (·.2)
def dPut (kvs : List (D × D)) (k v : D) : List (D × D) := if (dGet kvs k).isSome = true then kvs.map fun p => if p.1 = k then (p.1, v) else p else kvs ++ [(k, v)]
def eqG (st : Sto) (a b : D) : Option Bool := match toP st 2 a, toP st 2 b with
  | some p, some q => if p.canLay0 = true ∧ q.canLay0 = true ∧ min p.depth q.depth ≤ 64 then some (PyData.eqv p q) else none
  | _, _ => none
def eqD (st : Sto) (a b : D) : Option Bool := match a, b with
  | .int i, .int j => some (decide (i = j))
  | .str i, .str j => some (decide (i = j))
  | .bl i, .bl j => some (decide (i = j))
  | .tup xs, .tup [] => some xs.isEmpty
  | .loc n, .loc k => (match st[n]?, st[k]? with
    | some (.lst xs), some (.lst []) => some xs.isEmpty
    | _, _ => eqG st (.loc n) (.loc k))
  | a, b => eqG st a b
/-- the items of a list or a tuple -/
def seqD (st : Sto) : D → Option (List D)
  | .tup xs => some xs
  | .loc n => (match st[n]? with | some (.lst xs) => some xs | _ => none)
  | .fl xs => some xs
  | _ => none
/-- the items of a list -/
def lstD (st : Sto) : D → Option (List D)
  | .loc n => (match st[n]? with | some (.lst xs) => some xs | _ => none)
  | .fl xs => some xs
  | _ => none
def ofO {α : Type} (st : Sto) : Option α → R α
  | some a => .ok a st
  | none => .stuck

def binD (o : BOp) (a b : D) (st : Sto) : R D := match o, a, b with
  | .add, .int i, .int j => .ok (.int (i + j)) st
  | .add, .str x, .str y => if x.length + y.length ≤ LIM then .ok (.str (x ++ y)) st else .stuck
  | .add, .tup x, .tup y => if x.length + y.length ≤ LIM then .ok (.tup (x ++ y)) st else .stuck
  | .add, .loc l, .loc k => (match st[l]?, st[k]? with
    | some (.lst x), some (.lst y) => if x.length + y.length ≤ LIM then .ok (.loc st.length) (st ++ [.lst (x ++ y)]) else .stuck
    | _, _ => .stuck)
  | .sub, .int i, .int j => .ok (.int (i - j)) st
  | .mul, .int i, .int j => if (-(2 ^ 64) < i ∧ i < 2 ^ 64) ∨ (-(2 ^ 64) < j ∧ j < 2 ^ 64) then .ok (.int (i * j)) st else .stuck
  | .mul, .tup xs, .int k => if xs ≠ [] ∧ 2 ≤ k ∧ k ≤ 1000 ∧ xs.length ≤ 1000 then .ok (.tup (List.replicate k.toNat xs).flatten) st else .stuck
  | .fdiv, .int i, .int j => if 0 < j ∧ j < 1073741824 then .ok (.int (i / j)) st else .stuck
  | .mod, .int i, .int j => if 0 < j then .ok (.int (i % j)) st else .stuck
  | _, _, _ => .stuck
/-- whether an equal one is among them -/
def memS (st : Sto) (a : D) (xs : List D) : Option Bool := match toP st 2 a, toP st 2 (.tup xs) with
  | some p, some (.tuple ps) => if SeqAt.shaped p = true ∧ SeqAt.shaped (.tuple ps) = true then some (ps.any fun z => PyData.eqv z p) else none
  | _, _ => none
def memD (st : Sto) (a b : D) : Option Bool := match b with
  | .str y => (match a with | .str [c] => some (decide (c ∈ y)) | _ => none)
  | .tup xs => memS st a xs
  | .loc n => (match st[n]? with
    | some (.lst xs) => memS st a xs
    | some (.dct kvs) => if keyT a = true then some (dGet kvs a).isSome else none
    | some (.dck kvs) => if keyK a = true then some (dGet kvs a).isSome else none
    | _ => none)
  | _ => none
def cmpD (o : COp) (a b : D) (st : Sto) : R D := match o with
  | .eq => (ofO st (eqD st a b)).bind fun r st => .ok (.bl r) st
  | .ne => (ofO st (eqD st a b)).bind fun r st => .ok (.bl (!r)) st
  | .lt => (match a, b with | .int i, .int j => .ok (.bl (decide (i < j))) st | _, _ => .stuck)
  | .le => (match a, b with | .int i, .int j => .ok (.bl (decide (i ≤ j))) st | _, _ => .stuck)
  | .gt => (match a, b with | .int i, .int j => .ok (.bl (decide (j < i))) st | _, _ => .stuck)
  | .ge => (match a, b with | .int i, .int j => .ok (.bl (decide (j ≤ i))) st | _, _ => .stuck)
  | .isN => (match b with | .non => .ok (.bl (decide (a = .non))) st | _ => .stuck)
  | .notN => (match b with | .non => .ok (.bl (!decide (a = .non))) st | _ => .stuck)
  | .mem => (ofO st (memD st a b)).bind fun r st => .ok (.bl r) st
  | .nmem => (ofO st (memD st a b)).bind fun r st => .ok (.bl (!r)) st
def ixS (a i : D) (st : Sto) : R D := match i with
  | .int i => (match a with
    | .str x => if x.length ≤ LIM then (ofO st (atI x i)).bind fun c st => .ok (.str [c]) st else .stuck
    | a => (ofO st (seqD st a)).bind fun xs st => ofO st (atI xs i))
  | _ => .stuck
def ixD (a i : D) (st : Sto) : R D := match a with
  | .loc n => (match st[n]? with
    | some (.dct kvs) => if keyT i = true then ofO st (dGet kvs i) else .stuck
    | some (.dck kvs) => if keyK i = true then ofO st (dGet kvs i) else .stuck
    | _ => ixS (.loc n) i st)
  | a => ixS a i st
def cutD {α : Type} (xs : List α) (lo hi : Option Int) : List α := (xs.drop (HT.sIx xs.length 0 lo)).take (HT.sIx xs.length xs.length hi - HT.sIx xs.length 0 lo)
def slD (a : D) (lo hi : Option Int) (st : Sto) : R D := match a with
  | .str x => if x.length ≤ LIM then .ok (.str (cutD x lo hi)) st else .stuck
  | .tup xs => .ok (.tup (cutD xs lo hi)) st
  | a => (ofO st (lstD st a)).bind fun xs st => .ok (.loc st.length) (st ++ [.lst (cutD xs lo hi)])
def revD (a : D) (st : Sto) : R D := match a with
  | .tup xs => .ok (.tup xs.reverse) st
  | .str x => if x.length ≤ LIM then .ok (.str x.reverse) st else .stuck
  | a => (ofO st (lstD st a)).bind fun xs st => .ok (.loc st.length) (st ++ [.lst xs.reverse])
def fldD (a : D) (f : Str) (st : Sto) : R D := match a with
  | .loc n => (match st[n]? with | some (.ins _ fs) => ofO st (fs.lookup f) | _ => .stuck)
  | _ => .stuck
def kindD (st : Sto) : D → Option (Option Kd)
  | .non => some none
  | .bl _ => some (some .bool)
  | .int _ => some (some .int)
  | .str _ => some (some .str)
  | .tup _ => some (some .tup)
  | .loc n => (match st[n]? with | some (.lst _) => some (some .lst) | _ => none)
  | .fl _ => none
def isiD (a : D) (k : Kd) (st : Sto) : R D := (ofO st (kindD st a)).bind fun t st => .ok (.bl (decide (t = some k ∨ (t = some .bool ∧ k = .int)))) st
def intsD : List D → Option (List Int)
  | [] => some []
  | .int i :: r => (match intsD r with | some l => some (i :: l) | none => none)
  | _ => none
def strsD : List D → Option (List Tx)
  | [] => some []
  | .str i :: r => (match strsD r with | some l => some (i :: l) | none => none)
  | _ => none
def digitT (x : Tx) : Option Int := match x with
  | [c] => if 48 ≤ c ∧ c ≤ 57 then some ((c : Int) - 48) else none
  | _ => none
def biD (b : Bi) (a : D) (st : Sto) : R D := match b with
  | .len => (match a with
    | .str x => if x.length ≤ LIM then .ok (.int x.length) st else .stuck
    | a => (ofO st (seqD st a)).bind fun xs st => .ok (.int xs.length) st)
  | .int => (match a with
    | .int i => .ok (.int i) st
    | .bl k => .ok (.int (if k then 1 else 0)) st
    | .str x => (ofO st (digitT x)).bind fun i st => .ok (.int i) st
    | _ => .stuck)
  | .list => (match a with
    | .str x => if x.length ≤ LIM then .ok (.loc st.length) (st ++ [.lst (x.map fun c => D.str [c])]) else .stuck
    | a => (ofO st (seqD st a)).bind fun xs st => .ok (.loc st.length) (st ++ [.lst xs]))
  | .tuple => (ofO st (seqD st a)).bind fun xs st => .ok (.tup xs) st
  | .str => (match a with
    | .int i => if 0 ≤ i ∧ i < 10 then .ok (.str [48 + i.toNat]) st else .stuck
    | .str x => .ok (.str x) st
    | _ => .stuck)
  | .sum => (ofO st (lstD st a)).bind fun xs st => (ofO st (intsD xs)).bind fun ns st => .ok (.int ns.sum) st
def joinT (sep : Tx) : List Tx → Tx
  | [] => []
  | [x] => x
  | x :: y :: r => x ++ sep ++ joinT sep (y :: r)
/-- cut at each sign c -/
def splitT (c : Nat) (x : Tx) : List Tx := TL.spl [c] 0 [] x
def me0D (m : Me) (a : D) (st : Sto) : R D := match m, a with
  | .pop, .loc n => (match st[n]? with
    | some (.lst xs) => (match xs.getLast? with | some x => .ok x (st.set n (.lst xs.dropLast)) | none => .stuck)
    | _ => .stuck)
  | .clear, .loc n => (match st[n]? with | some (.lst _) => .ok .non (st.set n (.lst [])) | _ => .stuck)
  | _, _ => .stuck
def me1D (m : Me) (a b : D) (st : Sto) : R D := match m, a with
  | .append, .loc n => (match st[n]? with
    | some (.lst xs) => if xs.length < LIM then .ok .non (st.set n (.lst (xs ++ [b]))) else .stuck
    | _ => .stuck)
  | .pop, .loc n => (match st[n]?, b with
    | some (.lst xs), .int i => (match ixN xs.length i with
      | some k => (match xs[k]? with | some x => if xs.length ≤ LIM then .ok x (st.set n (.lst (xs.eraseIdx k))) else .stuck | none => .stuck)
      | none => .stuck)
    | _, _ => .stuck)
  | .extend, .loc n => (match b with
    | .loc k => (match st[n]?, st[k]? with
      | some (.lst xs), some (.lst ys) => if xs.length + ys.length ≤ LIM then .ok .non (st.set n (.lst (xs ++ ys))) else .stuck
      | _, _ => .stuck)
    | .tup ys => (match st[n]? with
      | some (.lst xs) => if xs.length + ys.length ≤ LIM then .ok .non (st.set n (.lst (xs ++ ys))) else .stuck
      | _ => .stuck)
    | _ => .stuck)
  | .index, .loc n => (match st[n]?, toP st 2 b with
    | some (.lst xs), some p => (match toP st 2 (.tup xs) with
      | some (.tuple ps) => if SeqAt.shaped p = true ∧ SeqAt.shaped (.tuple ps) = true then
          (match ps.findIdx? fun z => PyData.eqv z p with | some j => .ok (.int j) st | none => .stuck) else .stuck
      | _ => .stuck)
    | _, _ => .stuck)
  | .join, .str sep => (ofO st (seqD st b)).bind fun xs st => (ofO st (strsD xs)).bind fun ys st =>
      if (ys.map List.length).sum + ys.length * sep.length ≤ LIM then .ok (.str (joinT sep ys)) st else .stuck
  | .split, .str x => (match b with
    | .str [c] => if c < 256 ∧ x.length + 2 ≤ LIM then .ok (.loc st.length) (st ++ [.lst ((splitT c x).map D.str)]) else .stuck
    | _ => .stuck)
  | _, _ => .stuck
/-- whether a thing has such a method -/
def recvOk (m : Me) (st : Sto) (d : D) : Bool := match m with
  | .join => (match d with | .str _ => true | _ => false)
  | .split => (match d with | .str _ => true | _ => false)
  | _ => decide (kindD st d = some (some .lst))
def bOf (st : Sto) : D → R Bool
  | .bl b => .ok b st
  | _ => .stuck
def iOf (st : Sto) : D → R Int
  | .int b => .ok b st
  | _ => .stuck
def asgT (ρ : Env) : IT → D → Option Env
  | .name i, d => some (ρ.set i (some d))
  | .tup is, .tup ds => if ds.length = is.length then some ((is.zip ds).foldl (fun ρ p => ρ.set p.1 (some p.2)) ρ) else none
  | _, _ => none
def wipeE (ρ : Env) : List Nat → Env
  | [] => ρ
  | v :: vs => (wipeE ρ vs).set v none
/-- what is walked: the items, and the list that must stand as it is meanwhile -/
structure Wk where
  xs : List D
  l : Option (Nat × Cell)
def Wk.stays (w : Wk) (st : Sto) : Bool := match w.l with
  | none => true
  | some (n, c) => decide (st[n]? = some c)
/-- with their numbers -/
def enumD (i : Nat) : List D → List D
  | [] => []
  | x :: xs => .tup [.int i, x] :: enumD (i + 1) xs
def Wk.enum (w : Wk) : Wk := ⟨enumD 0 w.xs, w.l⟩
def wkD (a : D) (st : Sto) : R Wk := match a with
  | .tup xs => .ok ⟨xs, none⟩ st
  | .loc n => (match st[n]? with
    | some (.lst xs) => .ok ⟨xs, some (n, .lst xs)⟩ st
    | _ => .stuck)
  | .fl xs => .ok ⟨xs, none⟩ st
  | _ => .stuck
def rngW (lo : Int) (n : Nat) : Wk := ⟨(List.range n).map fun (k : Nat) => D.int (lo + (k : Int)), none⟩
def iLim (i : Int) : Prop := -(2 ^ 62) ≤ i ∧ i < 2 ^ 62
instance (i : Int) : Decidable (iLim i) := by unfold iLim; infer_instance
def compL (w : Wk) (f : D → Sto → R (Option D)) : List D → Sto → R (List D)
  | [], st => if w.stays st = true then .ok [] st else .stuck
  | x :: xs, st => if w.stays st = true then (f x st).bind fun o st => (compL w f xs st).bind fun ys st => .ok (match o with | some y => y :: ys | none => ys) st else .stuck
mutual
def ev (C : Cl) : IE → Env → Sto → R D
  | .var i, ρ, st => (match ρ[i]? with | some (some d) => .ok d st | _ => .stuck)
  | .cst d, _, st => .ok d st
  | .gl d, _, st => .ok d st
  | .tup es, ρ, st => (evs C es ρ st).bind fun ds st => if ds.length ≤ LIM then .ok (.tup ds) st else .stuck
  | .lst es, ρ, st => (evs C es ρ st).bind fun ds st => if ds.length ≤ LIM then .ok (.loc st.length) (st ++ [.lst ds]) else .stuck
  | .bin o a b, ρ, st => (ev C a ρ st).bind fun x st => (ev C b ρ st).bind fun y st => binD o x y st
  | .cmp o a b, ρ, st => (ev C a ρ st).bind fun x st => (ev C b ρ st).bind fun y st => cmpD o x y st
  | .and a b, ρ, st => (ev C a ρ st).bind fun x st => (bOf st x).bind fun k st => if k = true then (ev C b ρ st).bind fun y st => (bOf st y).bind fun j st => .ok (.bl j) st else .ok (.bl false) st
  | .or a b, ρ, st => (ev C a ρ st).bind fun x st => (bOf st x).bind fun k st => if k = true then .ok (.bl true) st else (ev C b ρ st).bind fun y st => (bOf st y).bind fun j st => .ok (.bl j) st
  | .not a, ρ, st => (ev C a ρ st).bind fun x st => (bOf st x).bind fun k st => .ok (.bl (!k)) st
  | .ite c a b, ρ, st => (ev C c ρ st).bind fun x st => (bOf st x).bind fun k st => if k = true then ev C a ρ st else ev C b ρ st
  | .ix a i, ρ, st => (ev C a ρ st).bind fun x st => (ev C i ρ st).bind fun y st => ixD x y st
  | .sl a lo hi, ρ, st => (ev C a ρ st).bind fun x st => (evO C lo ρ st).bind fun l st => (evO C hi ρ st).bind fun h st => slD x l h st
  | .rev a, ρ, st => (ev C a ρ st).bind fun x st => revD x st
  | .fld a f, ρ, st => (ev C a ρ st).bind fun x st => fldD x f st
  | .isi a k, ρ, st => (ev C a ρ st).bind fun x st => isiD x k st
  | .bi b a, ρ, st => (ev C a ρ st).bind fun x st => biD b x st
  | .call f es, ρ, st => (evs C es ρ st).bind fun ds st => C.call f ds st
  | .mk c es, ρ, st => (evs C es ρ st).bind fun ds st => match C.ini c with
    | some f => (C.call f (.loc st.length :: ds) (st ++ [.ins c []])).bind fun r st' => if r = .non then .ok (.loc st.length) st' else .stuck
    | none => .stuck
  | .me0 m a, ρ, st => (ev C a ρ st).bind fun x st => if recvOk m st x = true then me0D m x st else .stuck
  | .me1 m a b, ρ, st => (ev C a ρ st).bind fun x st => if recvOk m st x = true then (ev C b ρ st).bind fun y st => me1D m x y st else .stuck
  | .om nm m a es, ρ, st => (ev C a ρ st).bind fun x st => match x with
    | .loc n => (match st[n]? with
      | some (.ins c fs) => (match C.meth c m, fs.lookup nm with
        | some f, none => (evs C es ρ st).bind fun ds st => C.call f (.loc n :: ds) st
        | _, _ => .stuck)
      | _ => .stuck)
    | _ => .stuck
  | .dnew t, _, st => .ok (.loc st.length) (st ++ [if t = true then .dct [] else .dck []])
  | .cch o o' a b c, ρ, st => (ev C a ρ st).bind fun x st => (ev C b ρ st).bind fun y st => (cmpD o x y st).bind fun z st => (bOf st z).bind fun k st =>
      if k = true then (ev C c ρ st).bind fun w st => cmpD o' y w st else .ok (.bl false) st
  | .lrng1 a, ρ, st => (ev C a ρ st).bind fun x st => (iOf st x).bind fun i st => if 0 ≤ i ∧ i ≤ 100000 then .ok (.loc st.length) (st ++ [.lst (rngW 0 i.toNat).xs]) else .stuck
  | .lrng2 a b, ρ, st => (ev C a ρ st).bind fun x st => (ev C b ρ st).bind fun y st => (iOf st x).bind fun i st => (iOf st y).bind fun j st =>
      if 0 ≤ i ∧ i ≤ 100000 ∧ 0 ≤ j ∧ j ≤ 100000 then .ok (.loc st.length) (st ++ [.lst (rngW i (j - i).toNat).xs]) else .stuck
  | .comp e t own it c, ρ, st => (evI C it ρ st).bind fun w st =>
    ((compL w (fun x st => match asgT (wipeE ρ own) t x with
      | some ρ' => (evC C c ρ' st).bind fun k st => if k = true then (ev C e ρ' st).bind fun y st => .ok (some y) st else .ok none st
      | none => .stuck) w.xs st).noex).bind fun ys st => if ys.length ≤ LIM then .ok (.loc st.length) (st ++ [.lst ys]) else .stuck
def evs (C : Cl) : IEs → Env → Sto → R (List D)
  | .nil, _, st => .ok [] st
  | .cons e r, ρ, st => (ev C e ρ st).bind fun x st => (evs C r ρ st).bind fun xs st => .ok (x :: xs) st
def evO (C : Cl) : IO → Env → Sto → R (Option Int)
  | .none, _, st => .ok none st
  | .some e, ρ, st => (ev C e ρ st).bind fun x st => (iOf st x).bind fun i st => .ok (some i) st
/-- a comprehension's test -/
def evC (C : Cl) : IO → Env → Sto → R Bool
  | .none, _, st => .ok true st
  | .some e, ρ, st => (ev C e ρ st).bind fun x st => bOf st x
def evI (C : Cl) : II → Env → Sto → R Wk
  | .it e, ρ, st => (ev C e ρ st).bind fun x st => wkD x st
  | .enum e, ρ, st => (ev C e ρ st).bind fun x st => match x with
    | .loc _ => (wkD x st).bind fun w st => .ok w.enum st
    | .fl _ => (wkD x st).bind fun w st => .ok w.enum st
    | _ => .stuck
  | .rng1 e, ρ, st => (ev C e ρ st).bind fun x st => (iOf st x).bind fun i st => if iLim i then .ok (rngW 0 i.toNat) st else .stuck
  | .rng2 a b, ρ, st => (ev C a ρ st).bind fun x st => (ev C b ρ st).bind fun y st => (iOf st x).bind fun i st => (iOf st y).bind fun j st => if iLim i ∧ iLim j then .ok (rngW i (j - i).toNat) st else .stuck
end

/-- one turn of a comprehension -/
def turnC (C : Cl) (t : IT) (own : List Nat) (c : IO) (e : IE) (ρ : Env) (x : D) (st : Sto) : R (Option D) := match asgT (wipeE ρ own) t x with
      | some ρ' => (evC C c ρ' st).bind fun k st => if k = true then (ev C e ρ' st).bind fun y st => .ok (some y) st else .ok none st
      | none => .stuck

/-- where a statement ends -/
inductive Fl where
  | nx | bk | ct | rt (d : D)
inductive SR where
  | ok (f : Fl) (ρ : Env) (st : Sto) | exc (e : Ex) (ρ : Env) (st : Sto) | stuck
def R.sbind {α : Type} (ρ : Env) : R α → (α → Sto → SR) → SR
  | .ok a st, f => f a st
  | .exc e st, _ => .exc e ρ st
  | .stuck, _ => .stuck
/-- an exception is not carried -/
def SR.noex : SR → SR
  | .exc _ _ _ => .stuck
  | r => r
def SR.then : SR → (Env → Sto → SR) → SR
  | .ok .nx ρ st, f => f ρ st
  | r, _ => r
/-- the end of a loop's turn -/
def SR.turn : SR → (Env → Sto → SR) → SR
  | .ok .nx ρ st, f => f ρ st
  | .ok .ct ρ st, f => f ρ st
  | .ok .bk ρ st, _ => .ok .nx ρ st
  | r, _ => r
def loopW (t : Env → Sto → R Bool) (b : Env → Sto → SR) : Nat → Env → Sto → SR
  | 0, _, _ => .stuck
  | n + 1, ρ, st => (t ρ st).sbind ρ fun k st => if k = true then (b ρ st).turn (loopW t b n) else .ok .nx ρ st
def loopF (w : Wk) (t : IT) (b : Env → Sto → SR) : List D → Env → Sto → SR
  | [], ρ, st => if w.stays st = true then .ok .nx ρ st else .stuck
  | x :: xs, ρ, st => if w.stays st = true then (match asgT ρ t x with
    | some ρ' => (b ρ' st).turn (loopF w t b xs)
    | none => .stuck) else .stuck
def evT (C : Cl) (e : IE) (ρ : Env) (st : Sto) : R Bool := (ev C e ρ st).bind fun x st => bOf st x
mutual
def evS (C : Cl) (F : Nat) : IS → Env → Sto → SR
  | .asg t e, ρ, st => (ev C e ρ st).sbind ρ fun x st => match asgT ρ t x with | some ρ' => .ok .nx ρ' st | none => .stuck
  | .setf a f e, ρ, st => (ev C e ρ st).sbind ρ fun y st => (ev C a ρ st).sbind ρ fun x st => match x with
    | .loc n => (match st[n]? with | some (.ins c fs) => if fs.length < 1000 then .ok .nx ρ (st.set n (.ins c (putF' f y fs))) else .stuck | _ => .stuck)
    | _ => .stuck
  | .seti a i e, ρ, st => (ev C e ρ st).sbind ρ fun y st => (ev C a ρ st).sbind ρ fun x st => (ev C i ρ st).sbind ρ fun k st => match x, k with
    | .loc n, .int i => (match st[n]? with
      | some (.lst xs) => (match ixN xs.length i with | some j => .ok .nx ρ (st.set n (.lst (xs.set j y))) | none => .stuck)
      | some (.dck kvs) => if kvs.length < LIM then .ok .nx ρ (st.set n (.dck (dPut kvs k y))) else .stuck
      | _ => .stuck)
    | .loc n, .str _ => (match st[n]? with
      | some (.dck kvs) => if kvs.length < LIM then .ok .nx ρ (st.set n (.dck (dPut kvs k y))) else .stuck
      | _ => .stuck)
    | .loc n, .tup _ => (match st[n]? with
      | some (.dct kvs) => if keyT k = true ∧ kvs.length < LIM then .ok .nx ρ (st.set n (.dct (dPut kvs k y))) else .stuck
      | _ => .stuck)
    | _, _ => .stuck
  | .expr e, ρ, st => (ev C e ρ st).sbind ρ fun _ st => .ok .nx ρ st
  | .ret e, ρ, st => (ev C e ρ st).sbind ρ fun x st => .ok (.rt x) ρ st
  | .retN, ρ, st => .ok (.rt .non) ρ st
  | .pass, ρ, st => .ok .nx ρ st
  | .brk, ρ, st => .ok .bk ρ st
  | .cont, ρ, st => .ok .ct ρ st
  | .ite c a b, ρ, st => (evT C c ρ st).sbind ρ fun k st => if k = true then evSs C F a ρ st else evSs C F b ρ st
  | .whl c b, ρ, st => loopW (evT C c) (evSs C F b) F ρ st
  | .for_ t it b, ρ, st => (evI C it ρ st).sbind ρ fun w st => loopF w t (evSs C F b) w.xs ρ st
  | .tryN b, ρ, st => (evSs C F b ρ st).noex
  | .never, _, _ => .stuck
def evSs (C : Cl) (F : Nat) : ISs → Env → Sto → SR
  | .nil, ρ, st => .ok .nx ρ st
  | .cons s r, ρ, st => (evS C F s ρ st).then (evSs C F r)
end

/-! ### a program -/
structure FnIR where
  np : Nat
  nl : Nat
  body : ISs
structure Prog where
  fns : List FnIR
  ini : Nat → Option Nat
  meth : Nat → Nat → Option Nat
mutual
/-- no place at n or further is told -/
def clD (n : Nat) : D → Bool
  | .tup xs => clDs n xs
  | .loc k => decide (k < n)
  | .fl xs => clDs n xs
  | _ => true
def clDs (n : Nat) : List D → Bool
  | [] => true
  | x :: xs => clD n x && clDs n xs
end
def clC (n : Nat) : Cell → Bool
  | .lst xs => clDs n xs
  | .ins _ fs => clDs n (fs.map (·.2))
  | .dct kvs => clDs n (kvs.map (·.1)) && clDs n (kvs.map (·.2))
  | .dck kvs => clDs n (kvs.map (·.1)) && clDs n (kvs.map (·.2))
mutual
/-- the places that are told, in turn -/
def locsD : D → List Nat
  | .tup xs => locsDs xs
  | .loc k => [k]
  | .fl xs => locsDs xs
  | .non => [] | .bl _ => [] | .int _ => [] | .str _ => []
def locsDs : List D → List Nat
  | [] => []
  | x :: xs => locsD x ++ locsDs xs
end
def locsC : Cell → List Nat
  | .lst xs => locsDs xs
  | .ins _ fs => locsDs (fs.map (·.2))
  | .dct kvs => locsDs (kvs.map (·.2))
  | .dck kvs => locsDs (kvs.map (·.2))
mutual
/-- places by other numbers -/
def rnD (g : Nat → Nat) : D → D
  | .tup xs => .tup (rnDs g xs)
  | .loc k => .loc (g k)
  | .fl xs => .fl (rnDs g xs)
  | .non => .non | .bl b => .bl b | .int i => .int i | .str x => .str x
def rnDs (g : Nat → Nat) : List D → List D
  | [] => []
  | x :: xs => rnD g x :: rnDs g xs
end
def rnC (g : Nat → Nat) : Cell → Cell
  | .lst xs => .lst (rnDs g xs)
  | .ins c fs => .ins c (fs.map fun p => (p.1, rnD g p.2))
  | .dct kvs => .dct (kvs.map fun p => (p.1, rnD g p.2))
  | .dck kvs => .dck (kvs.map fun p => (p.1, rnD g p.2))
/-- the new places that are come to -/
def reach (n0 : Nat) (st : Sto) : Nat → List Nat → List Nat → List Nat
  | 0, _, acc => acc
  | _ + 1, [], acc => acc
  | f + 1, k :: todo, acc => if k < n0 ∨ k ∈ acc then reach n0 st f todo acc else
      reach n0 st f (todo ++ (match st[k]? with | some c => locsC c | none => [])) (acc ++ [k])
/-- the new number of a place -/
def newN (n0 : Nat) (L : List Nat) (k : Nat) : Nat := if k < n0 then k else n0 + L.idxOf k
def okN (n0 : Nat) (L : List Nat) (k : Nat) : Bool := decide (k < n0) || decide (k ∈ L)
/-- what stood is as it was, or told by what stood -/
def OldOk (st0 st : Sto) : Prop := ∀ i, i < st0.length → st[i]? = st0[i]? ∨ (st[i]?.map (clC st0.length)) = some true
instance (st0 st : Sto) : Decidable (OldOk st0 st) := by unfold OldOk; infer_instance
def pickC (n0 : Nat) (L : List Nat) (st : Sto) (k : Nat) : Cell := rnC (newN n0 L) (st[k]?.getD (.lst []))
def GcOk (n0 : Nat) (L : List Nat) (d : D) (st : Sto) : Prop := L.Nodup ∧ (∀ k ∈ L, n0 ≤ k ∧ (st[k]?.map fun c => (locsC c).all (okN n0 L)) = some true) ∧ (locsD d).all (okN n0 L) = true
instance (n0 : Nat) (L : List Nat) (d : D) (st : Sto) : Decidable (GcOk n0 L d st) := by unfold GcOk; infer_instance
/-- behind a call: of what was made in it there stays what is told, numbered anew -/
def gcD (n0 : Nat) (L : List Nat) (d : D) (st : Sto) : R D := if GcOk n0 L d st then .ok (rnD (newN n0 L) d) (st.take n0 ++ L.map (pickC n0 L st)) else .ok d st
def exC (e : Ex) : Bool := match e.f with | none => true | some (_, d) => clD 0 d
def finish (st0 : Sto) : R D → R D
  | .ok d st => if OldOk st0 st then gcD st0.length (reach st0.length st 40 (locsD d) []) d st else .ok d st
  | .exc e st => if exC e = true ∧ OldOk st0 st then .exc e (st.take st0.length) else .exc e st
  | .stuck => .stuck
def runB : SR → R D
  | .ok .nx _ st => .ok .non st
  | .ok (.rt d) _ st => .ok d st
  | .ok _ _ _ => .stuck
  | .exc e _ st => .exc e st
  | .stuck => .stuck
abbrev Fn := Nat → List D → Sto → R D
def Prog.step (pr : Prog) (F : Nat) (C : Cl) : Fn := fun f ds st => match pr.fns[f]? with
  | some fi => if ds.length = fi.np then finish st (runB (evSs C F fi.body (ds.map some ++ List.replicate (fi.nl - fi.np) none) st)) else .stuck
  | none => .stuck
def Prog.call (pr : Prog) (F : Nat) : Nat → Fn
  | 0 => fun _ _ _ => .stuck
  | k + 1 => pr.step F ⟨pr.call F k, pr.ini, pr.meth⟩
def Prog.cl (pr : Prog) (F k : Nat) : Cl := ⟨pr.call F k, pr.ini, pr.meth⟩

/-! ### that a piece stands in the text -/
structure CC where
  fns : List (Str × Nat)
  cls : List (Str × Nat)
  gls : List (Str × D)
  bls : List Str
  mns : List (Str × Nat)
  flds : List Str
def visB (sc : Scope) (x : Str) : Bool := match sc.names.lookup x with
  | some .local => true | some .cell => true | some .free => true | _ => false
def glB (sc : Scope) (x : Str) : Bool := decide (sc.names.lookup x = some .globalImplicit) && decide ((x == ("__debug__" : Str)) = false)
def isStar : Expr → Bool
  | .Starred .. => true
  | _ => false
def isComp : Expr → Bool
  | .ListComp .. => true | .SetComp .. => true | .DictComp .. => true
  | _ => false
def isSlice : Expr → Bool
  | .Slice .. => true
  | _ => false
def isSetD : Expr → Bool
  | .Set .. => true
  | _ => false
def baseOk : Expr → Bool
  | .Call _ [] _ _ => false
  | _ => true
def cstOk : D → Const → Bool
  | .non, .none => true
  | .bl a, .bool b => a == b
  | .int a, .int b => decide (a = b)
  | .str x, .str y => decide (y = sOf x)
  | _, _ => false
def opOk : BOp → Operator → Bool
  | .add, .Add => true | .sub, .Sub => true | .mul, .Mult => true | .fdiv, .FloorDiv => true | .mod, .Mod => true
  | _, _ => false
def copOk : COp → CmpOp → Bool
  | .eq, .Eq => true | .ne, .NotEq => true | .lt, .Lt => true | .le, .LtE => true | .gt, .Gt => true | .ge, .GtE => true
  | .isN, .Is => true | .notN, .IsNot => true | .mem, .In => true | .nmem, .NotIn => true
  | _, _ => false
def kdName : Kd → String
  | .bool => "bool" | .int => "int" | .str => "str" | .tup => "tuple" | .lst => "list"
def biName : Bi → Str
  | .len => "len" | .int => "int" | .list => "list" | .tuple => "tuple" | .str => "str" | .sum => "sum"
def meName : Me → Str
  | .append => "append" | .pop => "pop" | .extend => "extend" | .join => "join" | .clear => "clear" | .index => "index" | .split => "split"
def blB (cc : CC) (sc : Scope) (x : Str) : Bool := glB sc x && decide (x ∈ cc.bls) && decide (x ≠ ("__name__" : Str))
/-- numbered pairs come to a target of several names -/
def tgOk : II → Expr → Bool
  | .enum _, .Tuple _ _ _ => true
  | .enum _, _ => false
  | _, _ => true
def IT.slots : IT → List Nat
  | .name i => [i]
  | .tup is => is
def tgB (N : List Str) (sc : Scope) (fnS : Str → Bool) (i : Nat) : Expr → Bool
  | .Name x _ => decide (N[i]? = some x) && (match sc.names.lookup x with | some .local => true | some .cell => fnS x | _ => false)
  | _ => false
def tgsB (N : List Str) (sc : Scope) (fnS : Str → Bool) : List Nat → List Expr → Bool
  | [], [] => true
  | i :: is, e :: es => tgB N sc fnS i e && tgsB N sc fnS is es
  | _, _ => false
def chkT (N : List Str) (sc : Scope) (fnS : Str → Bool) : IT → Expr → Bool
  | .name i, e => tgB N sc fnS i e
  | .tup is, .Tuple es _ _ => tgsB N sc fnS is es
  | _, _ => false
mutual
def chkE (cc : CC) (N : List Str) : Scope → IE → Expr → Bool
  | sc, .var i, e => (match e with | .Name x _ => decide (N[i]? = some x) && visB sc x && decide ((x == ("__debug__" : Str)) = false) && decide ((x == ("__classdict__" : Str)) = false) | _ => false)
  | _, .cst d, e => (match e with | .Constant c _ _ => cstOk d c | .UnaryOp .USub (.Constant (.int j) _ _) _ => decide (d = .int (-j)) | _ => false)
  | sc, .gl d, e => (match e with | .Name x _ => glB sc x && decide (cc.gls.lookup x = some d) | _ => false)
  | sc, .tup es, e => (match e with | .Tuple xs _ _ => chkEs cc N sc es xs | _ => false)
  | sc, .lst es, e => (match e with | .List xs _ => chkEs cc N sc es xs | _ => false)
  | sc, .bin o a b, e => (match e with | .BinOp x op y _ => opOk o op && chkE cc N sc a x && chkE cc N sc b y | _ => false)
  | sc, .cmp o a b, e => (match e with | .Compare x [op] [y] _ => copOk o op && (!behindInMarks op y) && chkE cc N sc a x && chkE cc N sc b y | _ => false)
  | sc, .and a b, e => (match e with
    | .BoolOp .And [x, y] _ => chkE cc N sc a x && chkE cc N sc b y
    | .BoolOp .And (x :: y :: z :: r) pos => chkE cc N sc a x && chkE cc N sc b (.BoolOp .And (y :: z :: r) pos)
    | _ => false)
  | sc, .or a b, e => (match e with
    | .BoolOp .Or [x, y] _ => chkE cc N sc a x && chkE cc N sc b y
    | .BoolOp .Or (x :: y :: z :: r) pos => chkE cc N sc a x && chkE cc N sc b (.BoolOp .Or (y :: z :: r) pos)
    | _ => false)
  | sc, .not a, e => (match e with | .UnaryOp .Not x _ => chkE cc N sc a x | _ => false)
  | sc, .ite c a b, e => (match e with | .IfExp t x y _ => chkE cc N sc c t && chkE cc N sc a x && chkE cc N sc b y | _ => false)
  | sc, .ix a i, e => (match e with | .Subscript x y _ => (!isSlice y) && chkE cc N sc a x && chkE cc N sc i y | _ => false)
  | sc, .sl a lo hi, e => (match e with | .Subscript x (.Slice l h none _) _ => chkE cc N sc a x && chkO cc N sc lo l && chkO cc N sc hi h | _ => false)
  | sc, .rev a, e => (match e with | .Subscript x (.Slice none none (some (.UnaryOp .USub (.Constant (.int 1) _ _) _)) _) _ => chkE cc N sc a x | _ => false)
  | sc, .fld a f, e => (match e with | .Attribute x g _ => decide (f = g) && decide (f ∈ cc.flds) && baseOk x && chkE cc N sc a x | _ => false)
  | sc, .isi a k, e => (match e with | .Call (.Name nm _) [x, .Name t _] [] _ => decide (nm = "isinstance") && decide (t = Str.ofString (kdName k)) && blB cc sc nm && blB cc sc t && (!isStar x) && chkE cc N sc a x | _ => false)
  | sc, .bi b a, e => (match e with | .Call (.Name nm _) [x] [] _ => decide (nm = biName b) && blB cc sc nm && (!isStar x) && chkE cc N sc a x | _ => false)
  | sc, .call f es, e => (match e with | .Call (.Name nm _) xs [] _ => decide (cc.fns.lookup nm = some f) && glB sc nm && chkEs cc N sc es xs | _ => false)
  | sc, .mk c es, e => (match e with | .Call (.Name nm _) xs [] _ => decide (cc.cls.lookup nm = some c) && glB sc nm && chkEs cc N sc es xs | _ => false)
  | sc, .me0 m a, e => (match e with | .Call (.Attribute x nm ap) [] [] p => decide (nm = meName m) && decide (m = .pop ∨ m = .clear) && baseOk x && (ap.endLine == p.line) && chkE cc N sc a x | _ => false)
  | sc, .me1 m a b, e => (match e with | .Call (.Attribute x nm ap) [y] [] p => decide (nm = meName m) && decide (m ≠ .clear) && baseOk x && (!isStar y) && (ap.endLine == p.line) && chkE cc N sc a x && chkE cc N sc b y | _ => false)
  | sc, .om x' m a es, e => (match e with | .Call (.Attribute x nm ap) xs [] p => decide (x' = nm) && decide (cc.mns.lookup nm = some m) && baseOk x && (ap.endLine == p.line) && decide (xs.length < 20) && chkE cc N sc a x && chkEs cc N sc es xs | _ => false)
  | _, .dnew _, e => (match e with | .Dict [] [] _ => true | _ => false)
  | sc, .cch o o' a b c, e => (match e with | .Compare x [op, op'] [y, z] _ => copOk o op && copOk o' op' && (!lastMarks [op, op'] [y, z]) && chkE cc N sc a x && chkE cc N sc b y && chkE cc N sc c z | _ => false)
  | sc, .lrng1 a, e => (match e with | .Call (.Name ln _) [.Call (.Name nm _) [x] [] _] [] _ => decide (ln = "list") && blB cc sc ln && decide (nm = "range") && blB cc sc nm && (!isStar x) && chkE cc N sc a x | _ => false)
  | sc, .lrng2 a b, e => (match e with | .Call (.Name ln _) [.Call (.Name nm _) [x, y] [] _] [] _ => decide (ln = "list") && blB cc sc ln && decide (nm = "range") && blB cc sc nm && (!isStar x) && (!isStar y) && chkE cc N sc a x && chkE cc N sc b y | _ => false)
  | sc, .comp e t own it c, x => (match x with
    | .ListComp elt [⟨tg, iter, ifs, k⟩] scope _ => decide (k = 0) && blkC N sc scope (own.map fun i => (N.getD i "", i)) && (t.slots.all fun i => decide (i ∈ own)) && chkT N (relS scope sc) (fun x => scope.names.lookup x == some .cell) t tg && tgOk it tg && chkI cc N sc it iter &&
        (!isSetD iter) && chkC cc N (relS scope sc) c ifs && chkE cc N (relS scope sc) e elt
    | _ => false)
def chkEs (cc : CC) (N : List Str) : Scope → IEs → List Expr → Bool
  | _, .nil, es => (match es with | [] => true | _ => false)
  | sc, .cons a r, es => (match es with | e :: es => (!isStar e) && chkE cc N sc a e && chkEs cc N sc r es | _ => false)
def chkO (cc : CC) (N : List Str) : Scope → IO → Option Expr → Bool
  | _, .none, e => (match e with | none => true | _ => false)
  | sc, .some a, e => (match e with | some e => chkE cc N sc a e | _ => false)
def chkC (cc : CC) (N : List Str) : Scope → IO → List Expr → Bool
  | _, .none, e => (match e with | [] => true | _ => false)
  | sc, .some a, e => (match e with | [e] => chkE cc N sc a e | _ => false)
def chkI (cc : CC) (N : List Str) : Scope → II → Expr → Bool
  | sc, .it a, e => chkE cc N sc a e
  | sc, .enum a, e => (match e with | .Call (.Name nm _) [x] [] _ => decide (nm = "enumerate") && blB cc sc nm && (!isStar x) && chkE cc N sc a x | _ => false)
  | sc, .rng1 a, e => (match e with | .Call (.Name nm _) [x] [] _ => decide (nm = "range") && blB cc sc nm && (!isStar x) && chkE cc N sc a x | _ => false)
  | sc, .rng2 a b, e => (match e with | .Call (.Name nm _) [x, y] [] _ => decide (nm = "range") && blB cc sc nm && (!isStar x) && (!isStar y) && chkE cc N sc a x && chkE cc N sc b y | _ => false)
end
def bothTup : Expr → Expr → Bool
  | .Tuple .., .Tuple .. => true
  | _, _ => false
def setComp (sc : Scope) : Expr → Expr → Bool
  | .Name y py, .ListComp _ _ scope pos => decide (sc.names.lookup y = some .local) && (py.line == pos.line) && !(scope.names.any fun (n, k) => n == y && (k == .local || k == .cell))
  | _, v => !isComp v
mutual
def chkS (cc : CC) (N : List Str) (sc : Scope) : IS → Stmt → Bool
  | .asg t e, s => (match s with | .Assign [tg] v _ => (!bothTup tg v) && setComp sc tg v && chkT N sc (fun _ => true) t tg && chkE cc N sc e v | _ => false)
  | .setf a f e, s => (match s with | .Assign [.Attribute o g _] v _ => decide (f = g) && decide (f ∈ cc.flds) && chkE cc N sc a o && chkE cc N sc e v | _ => false)
  | .seti a i e, s => (match s with | .Assign [.Subscript o k _] v _ => (!isSlice k) && chkE cc N sc a o && chkE cc N sc i k && chkE cc N sc e v | _ => false)
  | .expr e, s => (match s with | .Expr v _ => (!isComp v) && chkE cc N sc e v | _ => false)
  | .ret e, s => (match s with | .Return (some v) _ => chkE cc N sc e v | _ => false)
  | .retN, s => (match s with | .Return none _ => true | _ => false)
  | .pass, s => (match s with | .Pass _ => true | _ => false)
  | .brk, s => (match s with | .Break _ => true | _ => false)
  | .cont, s => (match s with | .Continue _ => true | _ => false)
  | .ite c a b, s => (match s with | .If t xs ys _ => chkE cc N sc c t && chkSs cc N sc a xs && chkSs cc N sc b ys | _ => false)
  | .whl c b, s => (match s with | .While t xs [] _ => chkE cc N sc c t && chkSs cc N sc b xs | _ => false)
  | .for_ t it b, s => (match s with | .For tg iter xs [] _ => chkT N sc (fun _ => true) t tg && tgOk it tg && chkI cc N sc it iter && (!isSetD iter) && chkSs cc N sc b xs | _ => false)
  | .tryN b, s => (match s with | .Try xs (_ :: _) [] [] _ => chkSs cc N sc b xs | _ => false)
  | .never, _ => true
def chkSs (cc : CC) (N : List Str) (sc : Scope) : ISs → List Stmt → Bool
  | .nil, ss => (match ss with | [] => true | _ => false)
  | .cons a r, ss => (match ss with | s :: ss => chkS cc N sc a s && chkSs cc N sc r ss | _ => false)
end
end Z
/-! dicts whose keys are tuples of ints, texts, None and tuples -/
namespace Z
open PySem L2 PySem.Spec PyProof.Rows
mutual
def pyNk : NestedKey → PyData
  | .none => .none
  | .num i => .int i
  | .text x => .str x
  | .tup ks => .tuple (pyNks ks)
def pyNks : List NestedKey → List PyData
  | [] => []
  | k :: ks => pyNk k :: pyNks ks
end
mutual
theorem nk_reads {h : Heap} : ∀ (k : NestedKey) {u : Value} {as : List Addr}, Reads h u (pyNk k) as → NestedIs h k u
  | .none, u, as, r => by rw [pyNk] at r; cases r; exact .none
  | .num i, u, as, r => by rw [pyNk] at r; cases r; exact .int _ _
  | .text x, u, as, r => by rw [pyNk] at r; cases r; exact .text _ _
  | .tup ks, u, as, r => by
    rw [pyNk] at r
    cases r with
    | tuple h1 h2 h3 h4 => exact .tup h1 h2 h3 (nks_reads ks h4)
theorem nks_reads {h : Heap} : ∀ (ks : List NestedKey) {us : List Value} {as : List Addr}, ReadsAll h us (pyNks ks) as → NestedAll h ks us
  | [], us, as, r => by rw [pyNks] at r; cases r; exact .nil
  | k :: ks, us, as, r => by
    rw [pyNks] at r
    cases r with
    | cons h1 h2 => exact .cons (nk_reads k h1) (nks_reads ks h2)
end
abbrev NdX := List (NestedKey × Addr × Value)
def NdR (P : Program) (w : World) (a : Addr) (xs : NdX) (h : Heap) : Prop := (a == sysModules) = false ∧ xs.length ≤ sizeLine ∧
  ∃ o es ep, h.get? a = some o ∧ o.ExactDict ∧ o.data = .dict es ep ∧ es.toList = xs.map (entryOfKey (nestedKind P w)) ∧ (xs.map (·.1)).Nodup
def NdO (P : Program) (w : World) (a : Addr) (xs : NdX) : HO := .ext (NdR P w a xs)
theorem ndO_ok {P : Program} {w : World} {H : Hp} {h : Heap} {a : Addr} {xs : NdX} (x : NdR P w a xs h) : ObjOk P w H h a (NdO P w a xs) := by
  obtain ⟨h1, h2, o, es, ep, e, r⟩ := id x
  exact ⟨x, ⟨o, e⟩, fun g1 g2 ⟨a1, a2, o', es', ep', e', r'⟩ st => ⟨a1, a2, o', es', ep', st _ e', r'⟩⟩
/-- its keys -/
def NdKs (K : PySem.W.Frag) (H : Hp) (xs : NdX) : Prop := ∀ x ∈ xs, Dp K H (.ref x.2.1) (pyNk x.1) ∧ x.1.depth ≤ 8
section
variable {X : Cx} {pins : List (Addr × Obj)} {σ : L2.St} {H : Hp} {s : Shared} {a b : Addr} {xs : NdX}
theorem nk_is (I : Inv X pins σ H s) {k : NestedKey} (h : Dp X.K H (.ref b) (pyNk k)) (hd : k.depth ≤ 8) : (nestedKind X.prog X.w).is s.heap k b := by
  obtain ⟨as, r⟩ := Dp.reads I _ _ (.ref b) h rfl
  exact ⟨nk_reads k r, hd⟩
theorem nd_at (I : Inv X pins σ H s) (e : H a = some (NdO X.prog X.w a xs)) (hk : NdKs X.K H xs) : (a == sysModules) = false ∧ xs.length ≤ sizeLine ∧ s.heap.DictOfH (nestedKind X.prog X.w) a xs := by
  obtain ⟨⟨h1, h2, o, es, ep, h3, h4, h5, h6, h7⟩, _, _⟩ := I.hok a _ e
  exact ⟨h1, h2, o, es, ep, h3, h4, h5, h6, fun x hx => nk_is I (hk x hx).1 (hk x hx).2, h7⟩
def rNdIx (P : Program) (w : World) (K : PySem.W.Frag) : R2 := fun x y H Q => ∃ a b xs k ka u v, x = .ref a ∧ y = .ref b ∧ H a = some (NdO P w a xs) ∧ NdKs K H xs ∧ Dp K H (.ref b) (pyNk k) ∧ k.depth ≤ 8 ∧ atKey xs k = some (ka, u) ∧ RelV v u ∧ Q v H
theorem nd_getItem (hu : X.A.units + 9 < cLine) {x y : V} {v u : Value} {Q : VK} (I : Inv X pins σ H s) (rx : RelV x v) (ry : RelV y u) (h : rNdIx X.prog X.w X.K x y H Q) : wpAny (model X.prog X.w) X.A (getItem v u) (EP X pins σ Q) X.xe s := by
  obtain ⟨a, b, xs, k, ka, w', v', rfl, rfl, e, hk, dk, hd, hat, rv, q⟩ := h
  obtain rfl : v = Value.ref a := rx
  obtain rfl : u = Value.ref b := ry
  obtain ⟨h1, h2, dd⟩ := nd_at I e hk
  exact wpAny_getItem_heap (show X.A.units + 1 + 8 < cLine by omega) (nk_is I dk hd) dd hat ⟨v', H, I.tok _, rv, q⟩
def rNdIn (P : Program) (w : World) (K : PySem.W.Frag) (neg : Bool) : R2 := fun x y H Q => ∃ a b xs k, y = .ref a ∧ x = .ref b ∧ H a = some (NdO P w a xs) ∧ NdKs K H xs ∧ Dp K H (.ref b) (pyNk k) ∧ k.depth ≤ 8 ∧ Q (.bl (if neg then !(atKey xs k).isSome else (atKey xs k).isSome)) H
theorem op_ndIn (hu : X.A.units + 9 < cLine) : OpR X (compareOp .In) (rNdIn X.prog X.w X.K false) := by
  intro pins s σ H x y v u Q I rx ry h
  obtain ⟨a, b, xs, k, rfl, rfl, e, hk, dk, hd, q⟩ := h
  obtain rfl : v = Value.ref b := rx
  obtain rfl : u = Value.ref a := ry
  obtain ⟨h1, h2, dd⟩ := nd_at I e hk
  exact wpAny_in_heap (show X.A.units + 1 + 8 < cLine by omega) (nk_is I dk hd) h1 dd ⟨.bl _, H, I.tok _, rfl, q⟩
theorem op_ndNotIn (hu : X.A.units + 9 < cLine) : OpR X (compareOp .NotIn) (rNdIn X.prog X.w X.K true) := by
  intro pins s σ H x y v u Q I rx ry h
  obtain ⟨a, b, xs, k, rfl, rfl, e, hk, dk, hd, q⟩ := h
  obtain rfl : v = Value.ref b := rx
  obtain rfl : u = Value.ref a := ry
  obtain ⟨h1, h2, dd⟩ := nd_at I e hk
  exact wpAny_notIn_heap (show X.A.units + 1 + 8 < cLine by omega) (nk_is I dk hd) h1 dd ⟨.bl _, H, I.tok _, rfl, q⟩
theorem storedH_len {K : Type} [DecidableEq K] (xs : List (K × Addr × Value)) (k : K) (a : Addr) (v : Value) : (storedH xs k a v).length ≤ xs.length + 1 := by
  unfold storedH; split <;> simp
def rNdSet (P : Program) (w : World) (K : PySem.W.Frag) : TSet := fun o i v H Q => ∃ a b xs k, o = .ref a ∧ i = .ref b ∧ H a = some (NdO P w a xs) ∧ NdKs K H xs ∧ Dp K H (.ref b) (pyNk k) ∧ k.depth ≤ 8 ∧ xs.length < sizeLine ∧
  ∀ u, RelV v u → Q (upd H a (NdO P w a (storedH xs k b u)))
theorem set_nd (hu : X.A.units + 9 < cLine) : PSet X (rNdSet X.prog X.w X.K) := by
  intro pins s σ H o i v ov iv u Q I ro ri rv h
  obtain ⟨a, b, xs, k, rfl, rfl, e, hk, dk, hd, hl, q⟩ := h
  obtain rfl : ov = Value.ref a := ro
  obtain rfl : iv = Value.ref b := ri
  obtain ⟨h1, h2, dd⟩ := nd_at I e hk
  refine wpAny_setItem_heap (hsz := h2) (show X.A.units + 1 + 8 < cLine by omega) (nk_is I dk hd) dd fun h' dd' hs => ?_
  obtain ⟨o, es, ep, g1, g2, g3, g4, _, g5⟩ := dd'
  refine ⟨_, d_write I (by rw [e]; exact True.intro) hs ⟨o, g1⟩ (ndO_ok ⟨h1, ?_, o, es, ep, g1, g2, g3, g4, g5⟩), q u rv⟩
  have := storedH_len xs k b u
  omega
def tNdNew (P : Program) (w : World) : TE := fun _ H Q => ∀ p, H p = none → Q (.ref p) (upd H p (NdO P w p []))
theorem pe_ndNew {pos : Pos} : PE X (.Dict [] [] pos) (tNdNew X.prog X.w) := ⟨fun pins s σ H Q I h =>
  wpAny_Dict_empty ⟨.ref s.heap.objs.size, _, I.laid (a := s.heap.objs.size) (o := NdO X.prog X.w s.heap.objs.size []) (t' := s.toks) (fun _ _ q => Heap.get?_push_of_some _ q) (Nat.le_refl _)
    (ndO_ok ⟨beq_eq_false_iff_ne.mpr (Ne.symm (Nat.ne_of_lt I.big)), Nat.zero_le _, _, #[], 0, Heap.get?_push_size _ rfl, ⟨rfl, rfl, rfl⟩, rfl, rfl, List.nodup_nil⟩), rfl, h _ (I.hok.fresh (Nat.le_refl _))⟩⟩
end
end Z
/-! t[::-1], s[::-1]; xs.extend(t) -/
namespace PySem.AutoSeq1
theorem extend_lt (l : Addr) (items : Array Value) (n : Nat) (b : Addr) (items2 : Array Value) (n2 : Nat) (dd : Option Addr) (ss : Array (Option Value)) (hs0 : ¬(!items.isEmpty && Builtin.List.listTooLong (items.size + items2.size)) = true) (hs1 : items.size ≤ sizeLine) (hs2 : items.size + items2.size ≤ sizeLine + 1) :
    Meets (Builtin.«list.extend» ⟨[.ref l, .ref b], []⟩) (fun _ R s => s.heap.get? l = some { cls := .type "list", dict := none, data := .seq items n, slots := #[] } ∧ s.heap.get? b = some { cls := .type "tuple", dict := dd, data := .seq items2 n2, slots := ss } ∧ R (.ok (.ret Value.none)) { s with heap := s.heap.update l (Obj.mapSeq fun x => x ++ items2), toks := s.toks }) :=
  .of_wp fun prog w A R s h => by
    obtain ⟨hp, g, d, tk, os⟩ := s; obtain ⟨hl, hb, h⟩ := h; have f1 := idx_int; have f2 := sub_tuple_tuple; have f3 := sub_list_list; have f4 := sub_tuple_list; have f5 := sub_list_tuple;
    have hz' : (items ++ items2).size ≤ sizeLine + 1 := by rw [Array.size_append]; exact hs2
    wp_walk using (wpAny_updateSeq hl rfl (hz := hs1) (_hz' := hz')), wpAny_loadPart' hl, wpAny_loadPart' hb; exact ⟨_, rfl, h⟩
end PySem.AutoSeq1
namespace Z
open PySem L2 PySem.Spec PyProof.Rows
section
variable {prog : Program} {w : World} {A : Around} {E : Value → Shared → Prop} {s : Shared}
theorem adjust_rev (n : Nat) : Builtin.Slice.sliceAdjust none none (-1) (n : Int) = ((n : Int) - 1, -1) := by
  unfold Builtin.Slice.sliceAdjust
  have h1 : ((-1 : Int) < 0) := by omega
  simp only [h1, if_true]
theorem places_rev (n : Nat) : Builtin.Slice.slicePlaces ((n : Int) - 1) (-1) (-1) = n := by
  unfold Builtin.Slice.slicePlaces
  have h1 : ¬ ((-1 : Int) > 0) := by omega
  simp only [h1, if_false, show (- -1 : Int) = 1 by decide, Int.ediv_one]
  split <;> omega
theorem sliceApplied_rev {sl : Addr} {vs : Value} {n : Nat} {Q : Int × Int × Nat → Shared → Prop} (hs : s.heap.IsSliceOf sl .none .none vs) (ps : IsPart vs (some (-1)))
    (h : Q ((n : Int) - 1, -1, n) s) : wpAny (model prog w) A (Builtin.Slice.sliceApplied (.ref sl) (pure (n : Int))) Q E s := by
  obtain ⟨os, hos, hcs, hds⟩ := id hs
  unfold Builtin.Slice.sliceApplied Builtin.Slice.sliceFields
  refine wpAny_bind (wpAny_bind (wpAny_field hos hds (x := .none) rfl (wpAny_bind (wpAny_field hos hds (x := .none) rfl (wpAny_bind (wpAny_field hos hds (x := vs) rfl (wpAny_pure ?_)))))))
  refine wpAny_bind (HT.slicePart_ ps ?_)
  show wpAny _ _ (if ((-1 : Int) == 0) = true then _ else _) _ _ s
  rw [if_neg (by decide)]
  refine wpAny_bind (slicePart_none (wpAny_bind (slicePart_none (wpAny_bind (wpAny_pure ?_)))))
  show wpAny _ _ (match Builtin.Slice.sliceAdjust none none (-1) (n : Int) with | (lo, hi) => pure (lo, (-1 : Int), Builtin.Slice.slicePlaces lo hi (-1))) _ _ s
  rw [adjust_rev n]
  show wpAny _ _ (pure ((n : Int) - 1, (-1 : Int), Builtin.Slice.slicePlaces ((n : Int) - 1) (-1) (-1))) _ _ s
  rw [places_rev]
  exact wpAny_pure h
theorem fm_congr {α β : Type} {f g : α → Option β} : ∀ {l : List α}, (∀ a ∈ l, f a = g a) → l.filterMap f = l.filterMap g
  | [], _ => rfl
  | a :: l, h => by rw [List.filterMap_cons, List.filterMap_cons, h a List.mem_cons_self, fm_congr fun b hb => h b (List.mem_cons_of_mem _ hb)]
theorem pick_rev (xs : Array Value) : ((List.range xs.size).filterMap fun (m : Nat) => xs[((xs.size : Int) - 1 + (m : Int) * (-1)).toNat]?).toArray = xs.toList.reverse.toArray := by
  congr 1
  rw [← PySem.W.krv_all xs, ← List.filterMap_reverse, ← PySem.W.krv_range, List.filterMap_map]
  refine fm_congr fun m hm => ?_
  have := List.mem_range.mp hm
  show xs[((xs.size : Int) - 1 + (m : Int) * (-1)).toNat]? = xs[xs.size - 1 - m]?
  congr 1
  omega
theorem getItem_tuple_rev {t sl : Addr} {items : Array Value} {vs : Value} {Q : Value → Shared → Prop} (ht : IsTup s.heap t items) (hs : s.heap.IsSliceOf sl .none .none vs) (ps : IsPart vs (some (-1)))
    (h : Q (.ref s.heap.objs.size) { s with heap := s.heap.push { cls := .type "tuple", data := .seq items.toList.reverse.toArray } })
    (hsz : items.size ≤ sizeLine) : wpAny (model prog w) A (getItem (.ref t) (.ref sl)) Q E s := by
  have htake : sizeOk (.seq items.toList.reverse.toArray) := by
    show items.toList.reverse.toArray.size ≤ sizeLine
    rw [List.size_toArray, List.length_reverse, Array.length_toList]
    exact hsz
  obtain ⟨os, hos, hcs, hds⟩ := id hs
  have hTs : s.TypeIs (.ref sl) "slice" := ⟨os, hos, hcs⟩
  unfold getItem
  try with_reducible refine wpAny_holding ?_
  first | refine wpAny_bind (wpAny_pure ?_) | skip
  refine wpAny_bind (wpAny_sequenceKey ht.typeIs (by decide) ?_)
  refine wpAny_bind (wpAny_callSpecial?_slot (name := Str.ofString "__getitem__") ht.typeIs PyProof.Rows.slot_tuple_getitem
    (wpAny_call_entry PyProof.Rows.slot_tuple_getitem ht.typeIs entry_tuple_getitem ?_ (args_tuple_getitem _ _)))
  show wpAny _ _ (Builtin.Tuple.tupleItemsOf (.ref t) >>= _) _ _ s
  refine wpAny_bind (tupleItemsOf_ ht ?_)
  refine wpAny_bind (wpAny_typeOf hTs ?_)
  rw [if_pos (by decide)]
  refine wpAny_bind (sliceApplied_rev hs ps ?_)
  have hno : ¬ ((((items.size : Int) - 1) == 0 && (-1 : Int) == 1 && items.size == items.size) = true) := by simp
  show wpAny _ _ (if (((items.size : Int) - 1) == 0 && (-1 : Int) == 1 && items.size == items.size) = true then _ else _) _ _ s
  rw [if_neg hno, pick_rev]
  first
    | exact wpAny_bind (m := Builtin.Tuple.tupleExact _) (wpAny_newObj_type (wpAny_pure ⟨_, rfl, wpAny_pure h⟩) htake)
    | exact wpAny_bind (m := Builtin.Tuple.tupleExact _) (wpAny_newObj_type (wpAny_bind (wpAny_pure (wpAny_pure ⟨_, rfl, wpAny_pure h⟩))) htake)
    | exact wpAny_bind (wpAny_bind (m := Builtin.Tuple.tupleExact _) (wpAny_newObj_type (wpAny_pure (wpAny_pure ⟨_, rfl, wpAny_pure h⟩)) htake))
    | exact wpAny_bind (wpAny_bind (m := Builtin.Tuple.tupleExact _) (wpAny_newObj_type (wpAny_pure ⟨_, rfl, wpAny_pure h⟩) htake))
end
def rExtendT (K : PySem.W.Frag) : V → List V → Hp → VK → Prop := fun x vs H Q => ∃ l b xs zs, x = .ref l ∧ vs = [.ref b] ∧ H l = some (.lst xs) ∧ SqT K H b zs ∧ xs.length + zs.length ≤ sizeLine ∧ Q .non (upd H l (.lst (xs ++ zs)))
theorem mt_extendT {X : Cx} : MtM X "list.extend" (rExtendT X.K) := by
  intro pins s σ H x vs v us Q I rx rv h
  obtain ⟨l, b, xs, zs, rfl, rfl, hH, hB, hz, q⟩ := h
  cases rx
  obtain ⟨u, rfl, ru⟩ := rv.one
  cases ru
  obtain ⟨z, its, n, r, hl, e⟩ := I.lstM hH
  obtain ⟨its2, r2, ⟨⟨c2, dd, d2, ss⟩, e2, hc2, n2, hd2⟩, hl2⟩ := I.tuple hB
  dsimp only at hc2 hd2
  subst hc2 hd2
  have hle := r2.length
  have hsz : its.toArray.size + its2.toArray.size ≤ sizeLine := by rw [List.size_toArray, List.size_toArray]; omega
  have hlong : ¬ (!its.toArray.isEmpty && Builtin.List.listTooLong (its.toArray.size + its2.toArray.size)) = true := by
    rw [notLongL hsz, Bool.and_false]
    exact Bool.false_ne_true
  refine call_meets F.slot_list_extend ⟨_, e, rfl⟩ F.entry_list_extend (F.args_list_extend_2 _ _)
    (PySem.AutoSeq1.extend_lt l its.toArray n b its2.toArray n2 dd ss hlong (by rw [List.size_toArray]; omega) (by omega)) ⟨e, e2, ?_⟩
  refine ⟨.non, _, I.lset (its' := its ++ its2) hH e (by simp) (r.append r2) ?_, rfl, q⟩
  rw [List.length_append]
  omega
/-! a[::-1], any a -/
theorem strIx_rev (n : Nat) : Builtin.Str.strSliceIndices none none (-1) n = (List.range n).reverse := by
  rw [← PySem.W.krv_range, ← PySem.W.krv_sliceRange]
  rfl
theorem str_rev (z : Str) : (⟨((Builtin.Str.strSliceIndices none none (-1) z.length).filterMap (z.cps[·]?)).toArray⟩ : Str) = ⟨z.cps.toList.reverse.toArray⟩ := by
  rw [strIx_rev, List.filterMap_reverse]
  congr 3
  exact PySem.W.krv_all z.cps
def tRevA (K : PySem.W.Frag) (te : TE) : TE := fun σ H Q => te σ H fun x H1 => (∃ a xs, x = .ref a ∧ SqL K H1 a xs ∧ ∀ p, H1 p = none → Q (.ref p) (upd H1 p (.lst xs.reverse))) ∨
  (∃ a xs, x = .ref a ∧ SqT K H1 a xs ∧ ∀ p, H1 p = none → Q (.ref p) (upd H1 p (.tup xs.reverse))) ∨ (∃ z : Str, x = .str z ∧ z.length ≤ sizeLine ∧ Q (.str ⟨z.cps.toList.reverse.toArray⟩) H1)
theorem pe_revA {X : Cx} {e : Expr} {te : TE} {k : Nat} {p1 p2 p3 pos : Pos} (he : PE X e te) : PE X (.Subscript e (.Slice none none (some (.UnaryOp .USub (.Constant (.int 1) k p1) p2)) p3) pos) (tRevA X.K te) := by
  refine ⟨fun pins s σ H Q I h => ?_⟩
  refine Subscript_ (thn (he.run pins s σ H _ I h) fun v s1 ⟨x, H1, I1, r1, q1⟩ => ?_)
  have hst : PO X (some (.UnaryOp .USub (.Constant (.int 1) k p1) p2)) (tPart (tUn (rU fun i => .int (-i)) (tC (.int 1)))) := po_some (pe_un un_neg pe_int)
  refine wpAny_Slice (thn (po_none.run pins s1 σ H1 (fun o H2 => o = none ∧ H2 = H1) I1 ⟨rfl, rfl⟩) fun vl s2 ⟨l, H2, I2, pl, el, e2⟩ => ?_)
  subst el e2
  refine thn (po_none.run pins s2 σ H2 (fun o H3 => o = none ∧ H3 = H2) I2 ⟨rfl, rfl⟩) fun vu s3 ⟨u, H3, I3, pu, eu, e3⟩ => ?_
  subst eu e3
  refine thn (hst.run pins s3 σ H3 (fun o H4 => o = some (-1) ∧ H4 = H3) I3 ⟨1, rfl, -1, rfl, rfl, rfl⟩) fun vs s4 ⟨o, H4, I4, ps, eo, e4⟩ => ?_
  subst eo e4
  have I5 : Inv X pins σ H4 { s4 with heap := s4.heap.push { cls := .type "slice", data := .fields #[vl, vu, vs] } } := I4.kept (t' := s4.toks) fun b ob q => Heap.get?_push_of_some _ q
  rcases q1 with ⟨a, xs, ex, hx, q⟩ | ⟨a, xs, ex, hx, q⟩ | ⟨z, ex, hz, q⟩
  · subst ex
    cases r1
    obtain ⟨its, r, ht, hz⟩ := I5.list hx
    have hlen := r.length
    show wpAny (model X.prog X.w) X.A (subscriptTail e (.Slice none none (some (.UnaryOp .USub (.Constant (.int 1) k p1) p2)) p3) (.ref a) (.ref s4.heap.objs.size)) (EP X pins σ Q) X.xe { s4 with heap := s4.heap.push { cls := .type "slice", data := .fields #[vl, vu, vs] } }
    refine tail_any (ops := [.ref a, .ref s4.heap.objs.size]) ht.isList.typeIs (PySem.slot_list_getitem.lookup) ?_ (by with_unfolding_all rfl)
    refine wpAny_getItem_list_slice ht.isList (Heap.IsSliceOf.new _ vl vu vs) pl pu ps (by decide) ?_ (by rw [List.size_toArray]; omega)
    rw [PySem.W.krv_pick]
    refine ⟨.ref _, _, I5.laid (t' := s4.toks) (o := .lst xs.reverse) (fun b ob q => Heap.get?_push_of_some _ q) (Nat.le_refl _) ?_, rfl, q _ (I5.hok.fresh (Nat.le_refl _))⟩
    exact ⟨by rw [List.length_reverse]; exact hz, _, 0, r.reverse, Heap.get?_push_size _ rfl⟩
  · subst ex
    cases r1
    cases pl
    cases pu
    obtain ⟨its, r, ht, hz⟩ := I5.tuple hx
    have hlen := r.length
    show wpAny (model X.prog X.w) X.A (subscriptTail e (.Slice none none (some (.UnaryOp .USub (.Constant (.int 1) k p1) p2)) p3) (.ref a) (.ref s4.heap.objs.size)) (EP X pins σ Q) X.xe { s4 with heap := s4.heap.push { cls := .type "slice", data := .fields #[.none, .none, vs] } }
    refine tail_any (ops := [.ref a, .ref s4.heap.objs.size]) ht.typeIs (PyProof.Rows.slot_tuple_getitem.lookup) ?_ (by with_unfolding_all rfl)
    refine getItem_tuple_rev ht (Heap.IsSliceOf.new _ .none .none vs) ps ?_ (by rw [List.size_toArray]; omega)
    refine ⟨.ref _, _, I5.laid (t' := s4.toks) (o := .tup xs.reverse) (fun b ob q => Heap.get?_push_of_some _ q) (Nat.le_refl _) ?_, rfl, q _ (I5.hok.fresh (Nat.le_refl _))⟩
    exact ⟨by rw [List.length_reverse]; exact hz, _, r.reverse, IsTup.new _ _⟩
  · subst ex
    obtain ⟨t, rfl⟩ := r1
    cases pl
    cases pu
    obtain ⟨t2, rfl⟩ : ∃ t2, vs = .int (-1) t2 := by cases ps; exact ⟨_, rfl⟩
    show wpAny (model X.prog X.w) X.A (subscriptTail e (.Slice none none (some (.UnaryOp .USub (.Constant (.int 1) k p1) p2)) p3) (.str z t) (.ref s4.heap.objs.size)) (EP X pins σ Q) X.xe { s4 with heap := s4.heap.push { cls := .type "slice", data := .fields #[.none, .none, .int (-1) t2] } }
    refine tail_any (ops := [.str z t, .ref s4.heap.objs.size]) (typeIs_str _ z t) (F.slot_str_getitem.lookup) ?_ (by with_unfolding_all rfl)
    refine wpAny_getItem_str_slice (l := none) (u := none) (st := some (-1, t2)) ⟨_, Heap.get?_push_size _ rfl, rfl, rfl⟩ rfl ?_
    have hm : sliceMade z t none none (some (-1, t2)) = .str ⟨z.cps.toList.reverse.toArray⟩ := by
      unfold sliceMade
      rw [if_neg (by simp)]
      exact congrArg Made.str (str_rev z)
    rw [hm]
    exact ⟨by show z.cps.toList.reverse.toArray.size ≤ _; rw [List.size_toArray, List.length_reverse, Array.length_toList]; exact hz, .str _, H4, I5.tok _, ⟨_, rfl⟩, q⟩
end Z
namespace Z
open PySem L2
/-! ### what stands for what -/
structure Wd where
  P : Program
  w : World
  K : PySem.W.Frag
  mg : Str → Option Value
  base : Heap
  pr : Prog
  F : Nat
  fa : Nat → Addr
  fd : Nat → FuncData
  ps : Nat → List Str
  ca : Nat → Addr
  ncl : Nat
def SqF (K : PySem.W.Frag) (H : Hp) (a : Addr) (vs : List V) : Prop := (∃ o, H a = some (.frz o (.lst vs))) ∨
  ∃ (o : Obj) (its : Array Value) (n : Nat), K.lookup a = some o ∧ o.cls = .type "list" ∧ o.dict = none ∧ o.data = .seq its n ∧ its.size ≤ sizeLine ∧ Vals vs its.toList
theorem SqF.l {K : PySem.W.Frag} {H : Hp} {a : Addr} {vs : List V} (h : SqF K H a vs) : SqL K H a vs := by
  rcases h with h | h
  · exact .inl (.inr h)
  · exact .inr h
mutual
def Rp (K : PySem.W.Frag) (H : Hp) (m : List Addr) : D → V → Prop
  | .non, v => v = .non
  | .bl b, v => v = .bl b
  | .int i, v => v = .int i
  | .str x, v => v = .str (sOf x)
  | .tup ds, v => ∃ a vs, v = .ref a ∧ SqT K H a vs ∧ Rps K H m ds vs
  | .loc n, v => ∃ a, m[n]? = some a ∧ v = .ref a
  | .fl ds, v => ∃ a vs, v = .ref a ∧ SqF K H a vs ∧ Rps K H m ds vs
def Rps (K : PySem.W.Frag) (H : Hp) (m : List Addr) : List D → List V → Prop
  | [], vs => vs = []
  | d :: ds, vs => ∃ v vs', vs = v :: vs' ∧ Rp K H m d v ∧ Rps K H m ds vs'
end
theorem Rps.len {K : PySem.W.Frag} {H : Hp} {m : List Addr} : ∀ {ds : List D} {vs : List V}, Rps K H m ds vs → vs.length = ds.length
  | [], vs, h => by rw [Rps] at h; subst h; rfl
  | d :: ds, vs, h => by
    rw [Rps] at h
    obtain ⟨v, vs', rfl, _, h⟩ := h
    rw [List.length_cons, List.length_cons, Rps.len h]
theorem Rps.get {K : PySem.W.Frag} {H : Hp} {m : List Addr} : ∀ {ds : List D} {vs : List V} {i : Nat} {d : D}, Rps K H m ds vs → ds[i]? = some d → ∃ v, vs[i]? = some v ∧ Rp K H m d v
  | [], _, _, _, _, e => by simp at e
  | d :: ds, vs, i, d', h, e => by
    rw [Rps] at h
    obtain ⟨v, vs', rfl, h1, h2⟩ := h
    cases i with
    | zero => simp at e; subst e; exact ⟨v, rfl, h1⟩
    | succ i => simpa using Rps.get h2 (by simpa using e)
theorem Rps.append {K : PySem.W.Frag} {H : Hp} {m : List Addr} : ∀ {ds es : List D} {vs us : List V}, Rps K H m ds vs → Rps K H m es us → Rps K H m (ds ++ es) (vs ++ us)
  | [], es, vs, us, h, g => by rw [Rps] at h; subst h; exact g
  | d :: ds, es, vs, us, h, g => by
    rw [Rps] at h
    obtain ⟨v, vs', rfl, h1, h2⟩ := h
    rw [List.cons_append, List.cons_append, Rps]
    exact ⟨v, _, rfl, h1, Rps.append h2 g⟩
theorem Rps.drop {K : PySem.W.Frag} {H : Hp} {m : List Addr} : ∀ (n : Nat) {ds : List D} {vs : List V}, Rps K H m ds vs → Rps K H m (ds.drop n) (vs.drop n)
  | 0, _, _, h => h
  | n + 1, [], vs, h => by rw [Rps] at h; subst h; simp [Rps]
  | n + 1, d :: ds, vs, h => by
    rw [Rps] at h
    obtain ⟨v, vs', rfl, h1, h2⟩ := h
    exact Rps.drop n h2
theorem Rps.take {K : PySem.W.Frag} {H : Hp} {m : List Addr} : ∀ (n : Nat) {ds : List D} {vs : List V}, Rps K H m ds vs → Rps K H m (ds.take n) (vs.take n)
  | 0, _, _, h => by simp [Rps]
  | n + 1, [], vs, h => by rw [Rps] at h; subst h; simp [Rps]
  | n + 1, d :: ds, vs, h => by
    rw [Rps] at h
    obtain ⟨v, vs', rfl, h1, h2⟩ := h
    rw [List.take_succ_cons, List.take_succ_cons, Rps]
    exact ⟨v, _, rfl, h1, Rps.take n h2⟩
theorem Rps.set {K : PySem.W.Frag} {H : Hp} {m : List Addr} {d : D} {v : V} (r : Rp K H m d v) : ∀ (n : Nat) {ds : List D} {vs : List V}, Rps K H m ds vs → Rps K H m (ds.set n d) (vs.set n v)
  | _, [], vs, h => by rw [Rps] at h; subst h; simp [Rps]
  | 0, e :: ds, vs, h => by
    rw [Rps] at h
    obtain ⟨u, vs', rfl, h1, h2⟩ := h
    simp only [List.set_cons_zero]; rw [Rps]
    exact ⟨v, _, rfl, r, h2⟩
  | n + 1, e :: ds, vs, h => by
    rw [Rps] at h
    obtain ⟨u, vs', rfl, h1, h2⟩ := h
    simp only [List.set_cons_succ]; rw [Rps]
    exact ⟨u, _, rfl, h1, Rps.set r n h2⟩
theorem Rps.erase {K : PySem.W.Frag} {H : Hp} {m : List Addr} : ∀ (n : Nat) {ds : List D} {vs : List V}, Rps K H m ds vs → Rps K H m (ds.eraseIdx n) (vs.eraseIdx n)
  | _, [], vs, h => by rw [Rps] at h; subst h; simp [Rps]
  | 0, e :: ds, vs, h => by
    rw [Rps] at h
    obtain ⟨u, vs', rfl, h1, h2⟩ := h
    simpa using h2
  | n + 1, e :: ds, vs, h => by
    rw [Rps] at h
    obtain ⟨u, vs', rfl, h1, h2⟩ := h
    simp only [List.eraseIdx_cons_succ]; rw [Rps]
    exact ⟨u, _, rfl, h1, Rps.erase n h2⟩
theorem Rps.rev {K : PySem.W.Frag} {H : Hp} {m : List Addr} : ∀ {ds : List D} {vs : List V}, Rps K H m ds vs → Rps K H m ds.reverse vs.reverse
  | [], vs, h => by rw [Rps] at h; subst h; simp [Rps]
  | d :: ds, vs, h => by
    rw [Rps] at h
    obtain ⟨v, vs', rfl, h1, h2⟩ := h
    rw [List.reverse_cons, List.reverse_cons]
    exact (Rps.rev h2).append (by rw [Rps]; exact ⟨v, [], rfl, h1, by rw [Rps]⟩)
theorem Rps.dropLast {K : PySem.W.Frag} {H : Hp} {m : List Addr} {ds : List D} {vs : List V} (h : Rps K H m ds vs) : Rps K H m ds.dropLast vs.dropLast := by
  rw [List.dropLast_eq_take, List.dropLast_eq_take, h.len]
  exact h.take _
theorem Rps.one {K : PySem.W.Frag} {H : Hp} {m : List Addr} {d : D} {v : V} (h : Rp K H m d v) : Rps K H m [d] [v] := by
  rw [Rps]; exact ⟨v, [], rfl, h, by rw [Rps]⟩

/-- what a dict holds -/
def Dent (K : PySem.W.Frag) (H : Hp) (m : List Addr) : List (D × D) → NdX → Prop
  | [], xs => xs = []
  | (k, d) :: r, xs => ∃ nk ka u v xs', xs = (nk, ka, u) :: xs' ∧ nkD k = some nk ∧ nk.depth ≤ 8 ∧ Rp K H m k (.ref ka) ∧ RelV v u ∧ Rp K H m d v ∧ Dent K H m r xs'
def kyD : D → Option Key
  | .int i => some (.inl i)
  | .str x => some (.inr (sOf x))
  | _ => none
def Dkt (K : PySem.W.Frag) (H : Hp) (m : List Addr) : List (D × D) → List (Key × V) → Prop
  | [], xs => xs = []
  | (k, d) :: r, xs => ∃ ky v xs', xs = (ky, v) :: xs' ∧ kyD k = some ky ∧ Rp K H m d v ∧ Dkt K H m r xs'
/-- the fields of an instance -/
def Fsr (K : PySem.W.Frag) (H : Hp) (m : List Addr) (fs : List (Str × D)) (gs : List (Str × V)) : Prop := gs.map (·.1) = fs.map (·.1) ∧ Rps K H m (fs.map (·.2)) (gs.map (·.2))
def CellOk (W : Wd) (H : Hp) (m : List Addr) (a : Addr) : Cell → Prop
  | .lst ds => ∃ vs, H a = some (.lst vs) ∧ Rps W.K H m ds vs
  | .ins c fs => ∃ dx gs, c < W.ncl ∧ H a = some (.ins (W.ca c) dx gs) ∧ Fsr W.K H m fs gs
  | .dct kvs => ∃ xs, H a = some (NdO W.P W.w a xs) ∧ Dent W.K H m kvs xs
  | .dck kvs => ∃ xs, H a = some (.dK xs) ∧ Dkt W.K H m kvs xs
structure Sim (W : Wd) (H : Hp) (m : List Addr) (st : Sto) : Prop where
  len : m.length = st.length
  nd : m.Nodup
  ok : ∀ (i : Nat) (c : Cell) (a : Addr), st[i]? = some c → m[i]? = some a → CellOk W H m a c
structure Ext (m m' : List Addr) (H H' : Hp) : Prop where
  pre : ∃ l, m' = m ++ l
  keep : ∀ a o, H a = some o → a ∉ m → H' a = some o ∧ a ∉ m'
theorem Ext.refl {m : List Addr} {H : Hp} : Ext m m H H := ⟨⟨[], by simp⟩, fun _ _ h n => ⟨h, n⟩⟩
theorem Ext.at {m m' : List Addr} {H H' : Hp} (e : Ext m m' H H') {i : Nat} {a : Addr} (h : m[i]? = some a) : m'[i]? = some a := by
  obtain ⟨l, rfl⟩ := e.pre
  rw [List.getElem?_append_left (List.getElem?_eq_some_iff.mp h).1]; exact h
theorem Ext.len {m m' : List Addr} {H H' : Hp} (e : Ext m m' H H') : m.length ≤ m'.length := by
  obtain ⟨l, rfl⟩ := e.pre
  rw [List.length_append]; omega
theorem Ext.trans {m m1 m2 : List Addr} {H H1 H2 : Hp} (a : Ext m m1 H H1) (b : Ext m1 m2 H1 H2) : Ext m m2 H H2 := by
  refine ⟨?_, fun x o h n => ?_⟩
  · obtain ⟨l, rfl⟩ := a.pre
    obtain ⟨l', rfl⟩ := b.pre
    exact ⟨l ++ l', by rw [List.append_assoc]⟩
  · obtain ⟨h1, n1⟩ := a.keep x o h n
    exact b.keep x o h1 n1
/-- what stands at a place of the store -/
def isM : HO → Bool
  | .lst _ => true | .ins _ _ _ => true | .ext _ => true | .dK _ => true
  | _ => false
theorem Sim.mu {W : Wd} {H : Hp} {m : List Addr} {st : Sto} (s : Sim W H m st) {a : Addr} (h : a ∈ m) : ∃ o, H a = some o ∧ isM o = true := by
  obtain ⟨i, hi⟩ := List.getElem?_of_mem h
  have hl : i < st.length := by rw [← s.len]; exact (List.getElem?_eq_some_iff.mp hi).1
  have q := s.ok i st[i] a (List.getElem?_eq_getElem hl) hi
  cases e : st[i] with
  | lst ds => rw [e] at q; obtain ⟨vs, h1, _⟩ := q; exact ⟨_, h1, rfl⟩
  | ins c fs => rw [e] at q; obtain ⟨dx, gs, _, h1, _⟩ := q; exact ⟨_, h1, rfl⟩
  | dct kvs => rw [e] at q; obtain ⟨xs, h1, _⟩ := q; exact ⟨_, h1, rfl⟩
  | dck kvs => rw [e] at q; obtain ⟨xs, h1, _⟩ := q; exact ⟨_, h1, rfl⟩
theorem Sim.nin {W : Wd} {H : Hp} {m : List Addr} {st : Sto} (s : Sim W H m st) {a : Addr} {o : HO} (h : H a = some o) (n : isM o = false) : a ∉ m := fun z => by
  obtain ⟨o', h', n'⟩ := s.mu z
  rw [h] at h'; cases h'; rw [n] at n'; cases n'
theorem sqT_up {W : Wd} {H H' : Hp} {m m' : List Addr} {st : Sto} (s : Sim W H m st) (e : Ext m m' H H') {a : Addr} {vs : List V} (h : SqT W.K H a vs) : SqT W.K H' a vs := by
  rcases h with (h | ⟨o, h⟩) | h
  · exact .inl (.inl (e.keep a _ h (s.nin h rfl)).1)
  · exact .inl (.inr ⟨o, (e.keep a _ h (s.nin h rfl)).1⟩)
  · exact .inr h
theorem sqF_up {W : Wd} {H H' : Hp} {m m' : List Addr} {st : Sto} (s : Sim W H m st) (e : Ext m m' H H') {a : Addr} {vs : List V} (h : SqF W.K H a vs) : SqF W.K H' a vs := by
  rcases h with ⟨o, h⟩ | h
  · exact .inl ⟨o, (e.keep a _ h (s.nin h rfl)).1⟩
  · exact .inr h
section
variable {K : PySem.W.Frag} {H H' : Hp} {m m' : List Addr}
mutual
theorem Rp.mono (ht : ∀ a vs, SqT K H a vs → SqT K H' a vs) (hf : ∀ a vs, SqF K H a vs → SqF K H' a vs) (hm : ∀ (n : Nat) (a : Addr), m[n]? = some a → m'[n]? = some a) : ∀ {d : D} {v : V}, Rp K H m d v → Rp K H' m' d v
  | .non, v, h => by rw [Rp] at h ⊢; exact h
  | .bl _, v, h => by rw [Rp] at h ⊢; exact h
  | .int _, v, h => by rw [Rp] at h ⊢; exact h
  | .str _, v, h => by rw [Rp] at h ⊢; exact h
  | .tup ds, v, h => by
    rw [Rp] at h ⊢
    obtain ⟨a, vs, rfl, h1, h2⟩ := h
    exact ⟨a, vs, rfl, ht a vs h1, Rps.mono ht hf hm h2⟩
  | .loc n, v, h => by
    rw [Rp] at h ⊢
    obtain ⟨a, h1, rfl⟩ := h
    exact ⟨a, hm n a h1, rfl⟩
  | .fl ds, v, h => by
    rw [Rp] at h ⊢
    obtain ⟨a, vs, rfl, h1, h2⟩ := h
    exact ⟨a, vs, rfl, hf a vs h1, Rps.mono ht hf hm h2⟩
theorem Rps.mono (ht : ∀ a vs, SqT K H a vs → SqT K H' a vs) (hf : ∀ a vs, SqF K H a vs → SqF K H' a vs) (hm : ∀ (n : Nat) (a : Addr), m[n]? = some a → m'[n]? = some a) : ∀ {ds : List D} {vs : List V}, Rps K H m ds vs → Rps K H' m' ds vs
  | [], vs, h => by rw [Rps] at h ⊢; exact h
  | d :: ds, vs, h => by
    rw [Rps] at h ⊢
    obtain ⟨v, vs', rfl, h1, h2⟩ := h
    exact ⟨v, vs', rfl, Rp.mono ht hf hm h1, Rps.mono ht hf hm h2⟩
end
end
section
variable {W : Wd} {H H' : Hp} {m m' : List Addr} {st : Sto}
theorem Rp.up (s : Sim W H m st) (e : Ext m m' H H') {d : D} {v : V} (h : Rp W.K H m d v) : Rp W.K H' m' d v := h.mono (fun _ _ => sqT_up s e) (fun _ _ => sqF_up s e) (fun _ _ => e.at)
theorem Rps.up (s : Sim W H m st) (e : Ext m m' H H') {ds : List D} {vs : List V} (h : Rps W.K H m ds vs) : Rps W.K H' m' ds vs := h.mono (fun _ _ => sqT_up s e) (fun _ _ => sqF_up s e) (fun _ _ => e.at)
theorem Dent.mono (ht : ∀ a vs, SqT W.K H a vs → SqT W.K H' a vs) (hf : ∀ a vs, SqF W.K H a vs → SqF W.K H' a vs) (hm : ∀ (n : Nat) (a : Addr), m[n]? = some a → m'[n]? = some a) : ∀ {kvs : List (D × D)} {xs : NdX}, Dent W.K H m kvs xs → Dent W.K H' m' kvs xs
  | [], xs, h => h
  | (k, d) :: r, xs, h => by
    obtain ⟨nk, ka, u, v, xs', h1, h2, h3, h4, h5, h6, h7⟩ := h
    exact ⟨nk, ka, u, v, xs', h1, h2, h3, h4.mono ht hf hm, h5, h6.mono ht hf hm, Dent.mono ht hf hm h7⟩
theorem Dkt.mono (ht : ∀ a vs, SqT W.K H a vs → SqT W.K H' a vs) (hf : ∀ a vs, SqF W.K H a vs → SqF W.K H' a vs) (hm : ∀ (n : Nat) (a : Addr), m[n]? = some a → m'[n]? = some a) : ∀ {kvs : List (D × D)} {xs : List (Key × V)}, Dkt W.K H m kvs xs → Dkt W.K H' m' kvs xs
  | [], xs, h => h
  | (k, d) :: r, xs, h => by
    obtain ⟨ky, v, xs', h1, h2, h6, h7⟩ := h
    exact ⟨ky, v, xs', h1, h2, h6.mono ht hf hm, Dkt.mono ht hf hm h7⟩
theorem Dent.up (s : Sim W H m st) (e : Ext m m' H H') {kvs : List (D × D)} {xs : NdX} (h : Dent W.K H m kvs xs) : Dent W.K H' m' kvs xs := h.mono (fun _ _ => sqT_up s e) (fun _ _ => sqF_up s e) (fun _ _ => e.at)
theorem Dkt.up (s : Sim W H m st) (e : Ext m m' H H') {kvs : List (D × D)} {xs : List (Key × V)} (h : Dkt W.K H m kvs xs) : Dkt W.K H' m' kvs xs := h.mono (fun _ _ => sqT_up s e) (fun _ _ => sqF_up s e) (fun _ _ => e.at)
theorem Fsr.up (s : Sim W H m st) (e : Ext m m' H H') {fs : List (Str × D)} {gs : List (Str × V)} (h : Fsr W.K H m fs gs) : Fsr W.K H' m' fs gs := ⟨h.1, Rps.up s e h.2⟩
theorem CellOk.up (s : Sim W H m st) (e : Ext m m' H H') {a : Addr} (ha : H' a = H a) {c : Cell} (h : CellOk W H m a c) : CellOk W H' m' a c := by
  cases c with
  | lst ds =>
    obtain ⟨vs, h1, h2⟩ := h
    exact ⟨vs, ha.trans h1, h2.up s e⟩
  | ins c fs =>
    obtain ⟨dx, gs, hc, h1, h2⟩ := h
    exact ⟨dx, gs, hc, ha.trans h1, h2.up s e⟩
  | dct kvs =>
    obtain ⟨xs, h1, h2⟩ := h
    exact ⟨xs, ha.trans h1, h2.up s e⟩
  | dck kvs =>
    obtain ⟨xs, h1, h2⟩ := h
    exact ⟨xs, ha.trans h1, h2.up s e⟩
/-- a new thing is laid, which the store doesn't hold -/
theorem Sim.laid (s : Sim W H m st) {p : Addr} (hp : H p = none) (o : HO) : Sim W (upd H p o) m st ∧ Ext m m H (upd H p o) := by
  have e : Ext m m H (upd H p o) := ⟨⟨[], by simp⟩, fun a u h n => ⟨by rw [upd_ne (ne_of_none h hp)]; exact h, n⟩⟩
  refine ⟨⟨s.len, s.nd, fun i c a h1 h2 => (s.ok i c a h1 h2).up s e ?_⟩, e⟩
  obtain ⟨u, hu, _⟩ := s.mu (List.mem_of_getElem? h2)
  exact upd_ne (ne_of_none hu hp)
/-- a new thing is laid, which the store holds -/
theorem Sim.push (s : Sim W H m st) {p : Addr} (hp : H p = none) {o : HO} {c : Cell} (hc : CellOk W (upd H p o) (m ++ [p]) p c) : Sim W (upd H p o) (m ++ [p]) (st ++ [c]) ∧ Ext m (m ++ [p]) H (upd H p o) := by
  have np : ∀ a ∈ m, a ≠ p := fun a ha z => by
    obtain ⟨u, hu, _⟩ := s.mu ha
    rw [z, hp] at hu; cases hu
  have e : Ext m (m ++ [p]) H (upd H p o) := ⟨⟨[p], rfl⟩, fun a u h n => ⟨by rw [upd_ne (ne_of_none h hp)]; exact h, by
    simp only [List.mem_append, List.mem_singleton, not_or]
    exact ⟨n, ne_of_none h hp⟩⟩⟩
  refine ⟨⟨by simp [s.len], ?_, fun i c' a h1 h2 => ?_⟩, e⟩
  · rw [List.nodup_append]
    refine ⟨s.nd, by simp, fun a ha b hb => ?_⟩
    simp only [List.mem_singleton] at hb
    rw [hb]; exact np a ha
  · by_cases hi : i < st.length
    · rw [List.getElem?_append_left hi] at h1
      rw [List.getElem?_append_left (by rw [s.len]; exact hi)] at h2
      exact (s.ok i c' a h1 h2).up s e (upd_ne (np a (List.mem_of_getElem? h2)))
    · have hi' : i = st.length := by
        have := (List.getElem?_eq_some_iff.mp h1).1
        simp at this; omega
      subst hi'
      rw [List.getElem?_append_right (Nat.le_refl _)] at h1
      rw [List.getElem?_append_right (by rw [s.len]; exact Nat.le_refl _)] at h2
      simp [s.len] at h1 h2
      subst h1; subst h2
      exact hc
/-- a thing of the store changes -/
theorem Sim.write (s : Sim W H m st) {n : Nat} {a : Addr} (ha : m[n]? = some a) {o : HO} {c : Cell} (hc : CellOk W (upd H a o) m a c) : Sim W (upd H a o) m (st.set n c) ∧ Ext m m H (upd H a o) := by
  have e : Ext m m H (upd H a o) := ⟨⟨[], by simp⟩, fun b u h nn => ⟨by
    rw [upd_ne fun z => nn (by rw [z]; exact List.mem_of_getElem? ha)]; exact h, nn⟩⟩
  refine ⟨⟨by simp [s.len], s.nd, fun i c' b h1 h2 => ?_⟩, e⟩
  by_cases hi : i = n
  · subst hi
    rw [ha] at h2; cases h2
    rw [List.getElem?_set_self (by rw [← s.len]; exact (List.getElem?_eq_some_iff.mp ha).1)] at h1
    cases h1
    exact hc
  · rw [List.getElem?_set_ne (Ne.symm hi)] at h1
    refine (s.ok i c' b h1 h2).up s e (upd_ne fun z => hi ?_)
    subst z
    obtain ⟨h3, e3⟩ := List.getElem?_eq_some_iff.mp h2
    obtain ⟨h4, e4⟩ := List.getElem?_eq_some_iff.mp ha
    exact (List.getElem_inj s.nd).mp (e3.trans e4.symm)
theorem Sim.at (s : Sim W H m st) {n : Nat} {c : Cell} (h : st[n]? = some c) : ∃ a, m[n]? = some a ∧ CellOk W H m a c := by
  have hl : n < m.length := by rw [s.len]; exact (List.getElem?_eq_some_iff.mp h).1
  exact ⟨m[n], List.getElem?_eq_getElem hl, s.ok n c _ h (List.getElem?_eq_getElem hl)⟩
/-- a list that the store doesn't hold changes -/
theorem sqT_off {K : PySem.W.Frag} {D0 : Addr} {acc : List V} {o : HO} (hD : H D0 = some (.lst acc)) {a : Addr} {vs : List V} (h : SqT K H a vs) : SqT K (upd H D0 o) a vs := by
  rcases h with (h | ⟨u, h⟩) | h
  · exact .inl (.inl (by rw [upd_ne fun z => by rw [z, hD] at h; cases h]; exact h))
  · exact .inl (.inr ⟨u, by rw [upd_ne fun z => by rw [z, hD] at h; cases h]; exact h⟩)
  · exact .inr h
theorem sqF_off {K : PySem.W.Frag} {D0 : Addr} {acc : List V} {o : HO} (hD : H D0 = some (.lst acc)) {a : Addr} {vs : List V} (h : SqF K H a vs) : SqF K (upd H D0 o) a vs := by
  rcases h with ⟨u, h⟩ | h
  · exact .inl ⟨u, by rw [upd_ne fun z => by rw [z, hD] at h; cases h]; exact h⟩
  · exact .inr h
theorem Rp.off {K : PySem.W.Frag} {D0 : Addr} {acc : List V} {o : HO} (hD : H D0 = some (.lst acc)) {d : D} {v : V} (h : Rp K H m d v) : Rp K (upd H D0 o) m d v := h.mono (fun _ _ => sqT_off hD) (fun _ _ => sqF_off hD) fun _ _ z => z
theorem Rps.off {K : PySem.W.Frag} {D0 : Addr} {acc : List V} {o : HO} (hD : H D0 = some (.lst acc)) {d : List D} {v : List V} (h : Rps K H m d v) : Rps K (upd H D0 o) m d v := h.mono (fun _ _ => sqT_off hD) (fun _ _ => sqF_off hD) fun _ _ z => z
theorem Sim.off (s : Sim W H m st) {D0 : Addr} {acc : List V} {o : HO} (hD : H D0 = some (.lst acc)) (hn : D0 ∉ m) : Sim W (upd H D0 o) m st := by
  refine ⟨s.len, s.nd, fun i c a h1 h2 => ?_⟩
  have hne : a ≠ D0 := fun z => hn (by rw [← z]; exact List.mem_of_getElem? h2)
  have q := s.ok i c a h1 h2
  cases c with
  | lst ds =>
    obtain ⟨vs, h3, h4⟩ := q
    exact ⟨vs, by rw [upd_ne hne]; exact h3, h4.off hD⟩
  | ins c fs =>
    obtain ⟨dx, gs, hc, h3, h4⟩ := q
    exact ⟨dx, gs, hc, by rw [upd_ne hne]; exact h3, h4.1, h4.2.off hD⟩
  | dct kvs =>
    obtain ⟨xs, h3, h4⟩ := q
    exact ⟨xs, by rw [upd_ne hne]; exact h3, h4.mono (fun _ _ => sqT_off hD) (fun _ _ => sqF_off hD) fun _ _ z => z⟩
  | dck kvs =>
    obtain ⟨xs, h3, h4⟩ := q
    exact ⟨xs, by rw [upd_ne hne]; exact h3, h4.mono (fun _ _ => sqT_off hD) (fun _ _ => sqF_off hD) fun _ _ z => z⟩
theorem Ext.off {H1 : Hp} {m1 : List Addr} (e : Ext m1 m H1 H) {D0 : Addr} {o : HO} (hD : H1 D0 = none) : Ext m1 m H1 (upd H D0 o) := ⟨e.pre, fun a u h n => by
  obtain ⟨h2, n2⟩ := e.keep a u h n
  exact ⟨by rw [upd_ne (ne_of_none h hD)]; exact h2, n2⟩⟩
/-- it comes to be held -/
theorem Sim.adopt (s : Sim W H m st) {D0 : Addr} {vs : List V} {xs : List D} (hD : H D0 = some (.lst vs)) (hn : D0 ∉ m) (r : Rps W.K H m xs vs) : Sim W H (m ++ [D0]) (st ++ [.lst xs]) := by
  have upm : ∀ (n : Nat) (a : Addr), m[n]? = some a → (m ++ [D0])[n]? = some a := fun n a z => by
    rw [List.getElem?_append_left (List.getElem?_eq_some_iff.mp z).1]; exact z
  have up : ∀ {ds : List D} {us : List V}, Rps W.K H m ds us → Rps W.K H (m ++ [D0]) ds us := fun h => h.mono (fun _ _ z => z) (fun _ _ z => z) upm
  refine ⟨by simp [s.len], ?_, fun i c' a h1 h2 => ?_⟩
  · rw [List.nodup_append]
    refine ⟨s.nd, by simp, fun a ha b hb => ?_⟩
    simp only [List.mem_singleton] at hb
    rw [hb]; exact fun z => hn (by rw [← z]; exact ha)
  · by_cases hi : i < st.length
    · rw [List.getElem?_append_left hi] at h1
      rw [List.getElem?_append_left (by rw [s.len]; exact hi)] at h2
      have q := s.ok i c' a h1 h2
      cases c' with
      | lst ds => obtain ⟨us, h3, h4⟩ := q; exact ⟨us, h3, up h4⟩
      | ins c fs => obtain ⟨dx, gs, hc, h3, h4⟩ := q; exact ⟨dx, gs, hc, h3, h4.1, up h4.2⟩
      | dct kvs => obtain ⟨xs, h3, h4⟩ := q; exact ⟨xs, h3, h4.mono (fun _ _ z => z) (fun _ _ z => z) upm⟩
      | dck kvs => obtain ⟨xs, h3, h4⟩ := q; exact ⟨xs, h3, h4.mono (fun _ _ z => z) (fun _ _ z => z) upm⟩
    · have hi' : i = st.length := by
        have := (List.getElem?_eq_some_iff.mp h1).1
        simp at this; omega
      subst hi'
      rw [List.getElem?_append_right (Nat.le_refl _)] at h1
      rw [List.getElem?_append_right (by rw [s.len]; exact Nat.le_refl _)] at h2
      simp [s.len] at h1 h2
      subst h1; subst h2
      exact ⟨vs, hD, up r⟩
theorem Ext.adopt {H1 : Hp} {m1 : List Addr} (e : Ext m1 m H1 H) {D0 : Addr} (hD : H1 D0 = none) : Ext m1 (m ++ [D0]) H1 H := by
  refine ⟨?_, fun a u h n => ?_⟩
  · obtain ⟨l, rfl⟩ := e.pre
    exact ⟨l ++ [D0], by rw [List.append_assoc]⟩
  · obtain ⟨h2, n2⟩ := e.keep a u h n
    refine ⟨h2, ?_⟩
    simp only [List.mem_append, List.mem_singleton, not_or]
    exact ⟨n2, ne_of_none h hD⟩
end
end Z
namespace Z
open PySem L2
/-! ### what an answer promises -/
def ExR (W : Wd) (H : Hp) (m : List Addr) (e : Ex) (dx : Option Addr) : Prop := match e.f with
  | none => dx = none
  | some (f, d) => ∃ a v, dx = some a ∧ H a = some (.xd [(f, v)]) ∧ Rp W.K H m d v
def Pg {α : Type} (W : Wd) (E : XK) (m : List Addr) (H : Hp) (r : R α) (k : α → List Addr → Sto → Hp → Prop) : Prop := match r with
  | .ok a st => ∀ H' m', Ext m m' H H' → Sim W H' m' st → k a m' st H'
  | .exc e st => ∀ dx H' m', Ext m m' H H' → Sim W H' m' st → ExR W H' m' e dx → E (.ref (W.ca e.c)) dx H'
  | .stuck => False
/-- .. a value -/
def kD (W : Wd) (Q : VK) : D → List Addr → Sto → Hp → Prop := fun d m _ H => ∀ v, Rp W.K H m d v → Q v H
section
variable {W : Wd} {E : XK} {m m' : List Addr} {H H' : Hp} {α β : Type}
theorem Pg.up {r : R α} {k : α → List Addr → Sto → Hp → Prop} (e : Ext m m' H H') (h : Pg W E m H r k) : Pg W E m' H' r k := by
  cases r with
  | ok a st => exact fun H2 m2 e2 s2 => h H2 m2 (e.trans e2) s2
  | exc x st => exact fun dx H2 m2 e2 s2 => h dx H2 m2 (e.trans e2) s2
  | stuck => exact h
theorem Pg.bind {r : R α} {f : α → Sto → R β} {k : β → List Addr → Sto → Hp → Prop} (h : Pg W E m H (r.bind f) k) : Pg W E m H r fun a m' st' H' => Pg W E m' H' (f a st') k := by
  cases r with
  | ok a st => exact fun H2 m2 e2 s2 => Pg.up e2 h
  | exc x st => exact h
  | stuck => exact h
theorem Pg.imp {r : R α} {k k' : α → List Addr → Sto → Hp → Prop} (h : Pg W E m H r k) (q : ∀ a m' st' H', Ext m m' H H' → Sim W H' m' st' → k a m' st' H' → k' a m' st' H') : Pg W E m H r k' := by
  cases r with
  | ok a st => exact fun H2 m2 e2 s2 => q a m2 st H2 e2 s2 (h H2 m2 e2 s2)
  | exc x st => exact h
  | stuck => exact h
theorem Pg.now {a : α} {st : Sto} {k : α → List Addr → Sto → Hp → Prop} (h : Pg W E m H (.ok a st) k) (s : Sim W H m st) : k a m st H := h H m Ext.refl s
theorem Pg.go {a : α} {st : Sto} {k : α → List Addr → Sto → Hp → Prop} (h : Pg W E m H (.ok a st) k) (e : Ext m m' H H') (s : Sim W H' m' st) : k a m' st H' := h H' m' e s
theorem Pg.ite {c : Prop} [Decidable c] {a : R α} {k : α → List Addr → Sto → Hp → Prop} (h : Pg W E m H (if c then a else .stuck) k) : c ∧ Pg W E m H a k := by
  by_cases hc : c
  · rw [if_pos hc] at h; exact ⟨hc, h⟩
  · rw [if_neg hc] at h; exact h.elim
theorem Pg.ofO {o : Option α} {st : Sto} {f : α → Sto → R β} {k : β → List Addr → Sto → Hp → Prop} (h : Pg W E m H ((ofO st o).bind f) k) : ∃ a, o = some a ∧ Pg W E m H (f a st) k := by
  cases o with
  | some a => exact ⟨a, rfl, h⟩
  | none => exact h.elim
end

/-! ### names -/
def EnvR (W : Wd) (H : Hp) (m : List Addr) (ρ : Env) (σ : L2.St) : Prop := ρ.length = σ.length ∧ ∀ (i : Nat) (d : D), ρ[i]? = some (some d) → ∃ v, σ[i]? = some (some v) ∧ Rp W.K H m d v
section
variable {W : Wd} {m m' : List Addr} {H H' : Hp} {ρ : Env} {σ : L2.St} {st : Sto}
theorem EnvR.up (s : Sim W H m st) (e : Ext m m' H H') (h : EnvR W H m ρ σ) : EnvR W H' m' ρ σ := ⟨h.1, fun i d q => by
  obtain ⟨v, h1, h2⟩ := h.2 i d q
  exact ⟨v, h1, h2.up s e⟩⟩
theorem EnvR.set (h : EnvR W H m ρ σ) {i : Nat} {d : D} {v : V} (r : Rp W.K H m d v) : EnvR W H m (ρ.set i (some d)) (σ.set i (some v)) := by
  refine ⟨by simp [h.1], fun j e q => ?_⟩
  by_cases hj : j = i
  · subst hj
    have hl : j < ρ.length := by
      have := (List.getElem?_eq_some_iff.mp q).1
      simpa using this
    rw [List.getElem?_set_self hl] at q
    cases q
    exact ⟨v, by rw [List.getElem?_set_self (by rw [← h.1]; exact hl)], r⟩
  · rw [List.getElem?_set_ne (Ne.symm hj)] at q ⊢
    exact h.2 j e q
theorem EnvR.set_none (h : EnvR W H m ρ σ) {i : Nat} : EnvR W H m (ρ.set i none) (σ.set i none) := by
  refine ⟨by simp [h.1], fun j e q => ?_⟩
  by_cases hj : j = i
  · subst hj
    have hl : j < ρ.length := by
      have := (List.getElem?_eq_some_iff.mp q).1
      simpa using this
    rw [List.getElem?_set_self hl] at q
    cases q
  · rw [List.getElem?_set_ne (Ne.symm hj)] at q ⊢
    exact h.2 j e q
theorem EnvR.wipe (h : EnvR W H m ρ σ) : ∀ vs : List Nat, EnvR W H m (wipeE ρ vs) (L2.wipe σ vs)
  | [] => h
  | v :: vs => by
    unfold wipeE L2.wipe
    exact (EnvR.wipe h vs).set_none
end

/-! ### the readings -/
def tE (W : Wd) (E : XK) (f : Env → Sto → R D) : TE := fun σ H Q => ∃ m ρ st, Sim W H m st ∧ EnvR W H m ρ σ ∧ Pg W E m H (f ρ st) (kD W Q)
abbrev kB (Q : Bool → Hp → Prop) : Bool → List Addr → Sto → Hp → Prop := fun b _ _ H => Q b H
def tT (W : Wd) (E : XK) (f : Env → Sto → R Bool) : TT := fun σ H Q => ∃ m ρ st, Sim W H m st ∧ EnvR W H m ρ σ ∧ Pg W E m H (f ρ st) (kB Q)
def tA (W : Wd) (E : XK) (f : Env → Sto → R (List D)) : TA := fun σ H Q => ∃ m ρ st, Sim W H m st ∧ EnvR W H m ρ σ ∧ Pg W E m H (f ρ st) fun ds m' _ H' => ∀ vs, Rps W.K H' m' ds vs → Q vs H'
def tO (W : Wd) (E : XK) (f : Env → Sto → R (Option Int)) : TO := fun σ H Q => ∃ m ρ st, Sim W H m st ∧ EnvR W H m ρ σ ∧ Pg W E m H (f ρ st) fun o _ _ H' => Q o H'
theorem PE.weak {X : Cx} {e : Expr} {t t' : TE} (h : PE X e t) (q : ∀ σ H Q, t' σ H Q → t σ H Q) : PE X e t' := ⟨fun pins s σ H Q I w => h.run pins s σ H Q I (q σ H Q w)⟩
theorem PT.weak {X : Cx} {e : Expr} {t t' : TT} (h : PT X e t) (q : ∀ σ H Q, t' σ H Q → t σ H Q) : PT X e t' := ⟨fun pins s σ H Q I w => h.run pins s σ H Q I (q σ H Q w)⟩
theorem PW.weak {X : Cx} {e : Expr} {t t' : TT} (h : PW X e t) (q : ∀ σ H Q, t' σ H Q → t σ H Q) : PW X e t' := ⟨fun wh pins s σ H Q I w => h.run wh pins s σ H Q I (q σ H Q w)⟩
theorem PA.weak {X : Cx} {e : List Expr} {t t' : TA} (h : PA X e t) (q : ∀ σ H Q, t' σ H Q → t σ H Q) : PA X e t' := ⟨fun p pins s σ H Q I w => h.run p pins s σ H Q I (q σ H Q w)⟩
theorem PO.weak {X : Cx} {e : Option Expr} {t t' : TO} (h : PO X e t) (q : ∀ σ H Q, t' σ H Q → t σ H Q) : PO X e t' := ⟨fun pins s σ H Q I w => h.run pins s σ H Q I (q σ H Q w)⟩
theorem PS.weak {X : Cx} {e : Stmt} {t t' : TS} (h : PS X e t) (q : ∀ D σ H, t' D σ H → t D σ H) : PS X e t' := ⟨fun pins s σ H D I w => h.run pins s σ H D I (q D σ H w)⟩
theorem PSs.weak {X : Cx} {e : List Stmt} {t t' : TS} (h : PSs X e t) (q : ∀ D σ H, t' D σ H → t D σ H) : PSs X e t' := ⟨fun pins s σ H D I w => h.run pins s σ H D I (q D σ H w)⟩
section
variable {W : Wd} {E : XK} {f g : Env → Sto → R D} {σ : L2.St} {H : Hp}
/-- one operand, then something by its value -/
theorem tE.one {h : D → Sto → R D} {Q : VK} {k : V → Hp → Prop} (w : tE W E (fun ρ st => (f ρ st).bind h) σ H Q)
    (q : ∀ m st H d v, Sim W H m st → Rp W.K H m d v → Pg W E m H (h d st) (kD W Q) → k v H) : tE W E f σ H k := by
  obtain ⟨m, ρ, st, s, r, p⟩ := w
  exact ⟨m, ρ, st, s, r, p.bind.imp fun d m' st' H' _ s' p' v rv => q m' st' H' d v s' rv p'⟩
/-- two operands -/
theorem tE.two {h : D → D → Sto → R D} {Q : VK} {k : V → V → Hp → Prop} (w : tE W E (fun ρ st => (f ρ st).bind fun x st => (g ρ st).bind fun y st => h x y st) σ H Q)
    (q : ∀ m st H d v e u, Sim W H m st → Rp W.K H m d v → Rp W.K H m e u → Pg W E m H (h d e st) (kD W Q) → k v u H) : tE W E f σ H fun x H1 => tE W E g σ H1 fun y H2 => k x y H2 := by
  obtain ⟨m, ρ, st, s, r, p⟩ := w
  refine ⟨m, ρ, st, s, r, p.bind.imp fun d m1 st1 H1 e1 s1 p1 v rv => ?_⟩
  exact ⟨m1, ρ, st1, s1, r.up s e1, p1.bind.imp fun e m2 st2 H2 e2 s2 p2 u ru => q m2 st2 H2 d v e u s2 (rv.up s1 e2) ru p2⟩
end

/-! ### the operators by values -/
section
variable {W : Wd} {E : XK} {X : Cx} {m : List Addr} {H : Hp} {st : Sto} {Q : VK}
theorem lim_le {n : Nat} (h : n ≤ LIM) : n ≤ sizeLine := by rw [sizeLine_eq]; exact Nat.le_trans h (by decide)
theorem lim_lt {n : Nat} (h : n < LIM) : n < sizeLine := by rw [sizeLine_eq]; exact Nat.lt_of_lt_of_le h (by decide)
theorem sOf_len (x : Tx) : (sOf x).length = x.length := by show x.toArray.size = x.length; simp
theorem sOf_app (x y : Tx) : sOf x ++ sOf y = sOf (x ++ y) := by
  show Str.mk (x.toArray ++ y.toArray) = Str.mk (x ++ y).toArray
  simp
theorem kD_now {d : D} {v : V} (h : Pg W E m H (.ok d st) (kD W Q)) (s : Sim W H m st) (r : Rp W.K H m d v) : Q v H := h.now s v r
theorem Rp.tup_ref {K : PySem.W.Frag} {ds : List D} {v : V} (h : Rp K H m (.tup ds) v) : ∃ a vs, v = .ref a ∧ SqT K H a vs ∧ Rps K H m ds vs := by rw [Rp] at h; exact h
/-- a new tuple at p -/
theorem new_tup (s : Sim W H m st) {p : Addr} (hp : H p = none) {ds : List D} {vs : List V} (r : Rps W.K H m ds vs) (h : Pg W E m H (.ok (.tup ds) st) (kD W Q)) : Q (.ref p) (upd H p (.tup vs)) := by
  obtain ⟨s', e⟩ := s.laid hp (.tup vs)
  exact h.go e s' _ (by rw [Rp]; exact ⟨p, vs, rfl, SqT.of upd_same, r.up s e⟩)
/-- a new list at p -/
theorem new_lst (s : Sim W H m st) {p : Addr} (hp : H p = none) {ds : List D} {vs : List V} (r : Rps W.K H m ds vs) (h : Pg W E m H (.ok (.loc st.length) (st ++ [.lst ds])) (kD W Q)) : Q (.ref p) (upd H p (.lst vs)) := by
  have e0 : Ext m (m ++ [p]) H (upd H p (.lst vs)) := by
    refine ⟨⟨[p], rfl⟩, fun a u h n => ⟨by rw [upd_ne (ne_of_none h hp)]; exact h, ?_⟩⟩
    simp only [List.mem_append, List.mem_singleton, not_or]
    exact ⟨n, ne_of_none h hp⟩
  obtain ⟨s', e⟩ := s.push hp (c := .lst ds) (o := .lst vs) ⟨vs, upd_same, r.up s e0⟩
  refine h.go e s' (.ref p) ?_
  rw [Rp]
  refine ⟨p, ?_, rfl⟩
  rw [List.getElem?_append_right (by rw [s.len]; exact Nat.le_refl _), s.len]
  simp

/-- o by values -/
def rBin (W : Wd) (o : BOp) : R2 := fun x y H Q => match o with
  | .add => (∃ i j, x = .int i ∧ y = .int j ∧ Q (.int (i + j)) H) ∨ (∃ i j, x = .str i ∧ y = .str j ∧ i.length + j.length ≤ sizeLine ∧ Q (.str (i ++ j)) H) ∨ rCatA W.K x y H Q ∨ rCat x y H Q
  | .sub => ∃ i j, x = .int i ∧ y = .int j ∧ Q (.int (i - j)) H
  | .mul => (∃ i j, x = .int i ∧ y = .int j ∧ CMul i j ∧ Q (.int (i * j)) H) ∨ rRepT W.K x y H Q
  | .fdiv => ∃ i j, x = .int i ∧ y = .int j ∧ CDiv i j ∧ Q (.int (i / j)) H
  | .mod => ∃ i j, x = .int i ∧ y = .int j ∧ 0 < j ∧ Q (.int (i % j)) H
theorem op_rBin {o : BOp} {op : Operator} (h : opOk o op = true) (hK : X.K = W.K) : OpR X (binaryOp op) (rBin W o) := by
  cases o <;> cases op <;> simp [opOk] at h
  · have q := (op_add (X := X)).or ((op_add_str (X := X)).or ((op_catA (X := X)).or (op_cat (X := X))))
    rw [hK] at q
    exact q
  · exact op_sub
  · have q := (op_mul (X := X)).or (op_repT (X := X))
    rw [hK] at q
    exact q
  · exact op_fdiv
  · exact op_mod
theorem Rps.rep {K : PySem.W.Frag} {ds : List D} {vs : List V} (h : Rps K H m ds vs) : ∀ n : Nat, Rps K H m (List.replicate n ds).flatten (List.replicate n vs).flatten
  | 0 => by rw [List.replicate_zero, List.replicate_zero]; show Rps K H m [] []; rw [Rps]
  | n + 1 => by rw [List.replicate_succ, List.replicate_succ, List.flatten_cons, List.flatten_cons]; exact h.append (Rps.rep h n)
theorem bin_ok {o : BOp} {d e : D} {v u : V} (s : Sim W H m st) (r1 : Rp W.K H m d v) (r2 : Rp W.K H m e u) (h : Pg W E m H (binD o d e st) (kD W Q)) : rBin W o v u H Q := by
  unfold binD at h
  split at h
  · rw [Rp] at r1 r2; subst r1 r2
    exact .inl ⟨_, _, rfl, rfl, kD_now h s (by rw [Rp])⟩
  · obtain ⟨c, h⟩ := h.ite
    rw [Rp] at r1 r2; subst r1 r2
    exact .inr (.inl ⟨_, _, rfl, rfl, by rw [sOf_len, sOf_len]; exact lim_le c, kD_now h s (by rw [Rp, sOf_app])⟩)
  · obtain ⟨c, h⟩ := h.ite
    obtain ⟨a, vs, rfl, h1, h2⟩ := r1.tup_ref
    obtain ⟨b, us, rfl, g1, g2⟩ := r2.tup_ref
    refine .inr (.inr (.inl ⟨a, b, vs, us, rfl, rfl, h1, g1, by rw [h2.len, g2.len]; exact lim_le c, fun e => ?_, fun _ e => ?_, fun _ _ p hp => new_tup s hp (h2.append g2) h⟩))
    · subst e
      refine kD_now h s ?_
      have := h2.append g2
      rw [Rp]; exact ⟨b, us, rfl, g1, this⟩
    · subst e
      refine kD_now h s ?_
      have := h2.append g2
      rw [List.append_nil] at this
      rw [Rp]; exact ⟨a, vs, rfl, h1, this⟩
  · split at h
    · rename_i ha hb
      obtain ⟨c, h⟩ := h.ite
      obtain ⟨a, k1, vs, k2, k3⟩ := s.at ha
      obtain ⟨b, l1, us, l2, l3⟩ := s.at hb
      rw [Rp] at r1 r2
      obtain ⟨a', ea, rfl⟩ := r1
      obtain ⟨b', eb, rfl⟩ := r2
      rw [k1] at ea; cases ea
      rw [l1] at eb; cases eb
      exact .inr (.inr (.inr ⟨a, b, vs, us, rfl, rfl, k2, l2, by rw [k3.len, l3.len]; exact lim_le c, fun p hp => new_lst s hp (k3.append l3) h⟩))
    · exact h.elim
  · rw [Rp] at r1 r2; subst r1 r2
    exact ⟨_, _, rfl, rfl, kD_now h s (by rw [Rp])⟩
  · obtain ⟨c, h⟩ := h.ite
    rw [Rp] at r1 r2; subst r1 r2
    exact .inl ⟨_, _, rfl, rfl, c, kD_now h s (by rw [Rp])⟩
  · obtain ⟨c, h⟩ := h.ite
    obtain ⟨a, vs, rfl, h1, h2⟩ := r1.tup_ref
    rw [Rp] at r2; subst r2
    obtain ⟨c1, c2, c3, c4⟩ := c
    refine .inr ⟨a, _, vs, rfl, rfl, h1, fun z => c1 ?_, c2, c3, by rw [h2.len]; exact c4, fun p hp => new_tup s hp (Rps.rep h2 _) h⟩
    have := h2.len
    rw [z] at this
    exact List.eq_nil_of_length_eq_zero this.symm
  · obtain ⟨c, h⟩ := h.ite
    rw [Rp] at r1 r2; subst r1 r2
    exact ⟨_, _, rfl, rfl, c, kD_now h s (by rw [Rp])⟩
  · obtain ⟨c, h⟩ := h.ite
    rw [Rp] at r1 r2; subst r1 r2
    exact ⟨_, _, rfl, rfl, c, kD_now h s (by rw [Rp])⟩
  · exact h.elim
end
end Z
namespace Z
open PySem L2
section
variable {W : Wd} {E : XK} {X : Cx} {m : List Addr} {H : Hp} {st : Sto} {Q : VK}
/-! ### comparisons by values -/
mutual
theorem toPW_ok {f : Nat → Option PyData} (hf : ∀ k p v, f k = some p → Rp W.K H m (.loc k) v → Dp W.K H v p) : ∀ {d : D} {p : PyData} {v : V}, toPW f d = some p → Rp W.K H m d v → Dp W.K H v p
  | .non, p, v, e, r => by rw [toPW] at e; rw [Rp] at r; cases e; subst r; exact .non
  | .bl b, p, v, e, r => by rw [toPW] at e; rw [Rp] at r; cases e; subst r; exact .bl b
  | .int b, p, v, e, r => by rw [toPW] at e; rw [Rp] at r; cases e; subst r; exact .int b
  | .str b, p, v, e, r => by rw [toPW] at e; rw [Rp] at r; cases e; subst r; exact .str _
  | .tup xs, p, v, e, r => by
    rw [toPW] at e
    obtain ⟨a, vs, rfl, h1, h2⟩ := r.tup_ref
    split at e
    · rename_i ps q
      cases e
      exact .tup h1 (toPWs_ok hf q h2)
    · cases e
  | .loc k, p, v, e, r => by rw [toPW] at e; exact hf k p v e r
  | .fl _, p, v, e, r => by rw [toPW] at e; cases e
theorem toPWs_ok {f : Nat → Option PyData} (hf : ∀ k p v, f k = some p → Rp W.K H m (.loc k) v → Dp W.K H v p) : ∀ {ds : List D} {ps : List PyData} {vs : List V}, toPWs f ds = some ps → Rps W.K H m ds vs → DpAll W.K H vs ps
  | [], ps, vs, e, r => by rw [toPWs] at e; rw [Rps] at r; cases e; subst r; exact .nil
  | d :: ds, ps, vs, e, r => by
    rw [toPWs] at e
    rw [Rps] at r
    obtain ⟨v, vs', rfl, h1, h2⟩ := r
    split at e
    · rename_i p ps q1 q2
      cases e
      exact .cons (toPW_ok hf q1 h1) (toPWs_ok hf q2 h2)
    · cases e
end
theorem toP_ok (s : Sim W H m st) : ∀ (n : Nat) {d : D} {p : PyData} {v : V}, toP st n d = some p → Rp W.K H m d v → Dp W.K H v p
  | 0, d, p, v, e, r => toPW_ok (f := fun _ => none) (fun k p v z => by cases z) e r
  | n + 1, d, p, v, e, r => by
    rw [toP] at e
    refine toPW_ok (fun k p v z rz => ?_) e r
    rw [Rp] at rz
    obtain ⟨a, ha, rfl⟩ := rz
    split at z
    · rename_i xs hx
      split at z
      · rename_i ps q
        cases z
        obtain ⟨b, hb, vs, h1, h2⟩ := s.at hx
        rw [ha] at hb; cases hb
        exact .lst (SqL.of h1) (toPWs_ok (fun k p v z' rz' => toP_ok s n z' rz') q h2)
      · cases z
    · cases z
def rEqM (K : PySem.W.Frag) (neg : Bool) : R2 := fun x y H Q => ∃ d e, Dp K H x d ∧ Dp K H y e ∧ d.canLay0 = true ∧ e.canLay0 = true ∧ min d.depth e.depth ≤ 64 ∧ Q (.bl (if neg then !PyData.eqv d e else PyData.eqv d e)) H
theorem op_eqM (hu : X.A.units + 64 < cLine) : OpR X (compareOp .Eq) (rEqM X.K false) := by
  intro pins s σ H x y v u Q I rx ry h
  obtain ⟨d, e, hd, he, sd, se, hm, q⟩ := h
  obtain ⟨as, r1⟩ := Dp.reads I d x v hd rx
  obtain ⟨bs, r2⟩ := Dp.reads I e y u he ry
  exact SeqAt.compareEq_reads r1 r2 sd se (by omega) ⟨.bl _, H, I, rfl, q⟩
theorem op_neM (hu : X.A.units + 64 < cLine) : OpR X (compareOp .NotEq) (rEqM X.K true) := by
  intro pins s σ H x y v u Q I rx ry h
  obtain ⟨d, e, hd, he, sd, se, hm, q⟩ := h
  obtain ⟨as, r1⟩ := Dp.reads I d x v hd rx
  obtain ⟨bs, r2⟩ := Dp.reads I e y u he ry
  exact SeqAt.compareNe_reads r1 r2 sd se (by omega) ⟨.bl _, H, I, rfl, q⟩
/-- with nothing on the right -/
def rEqE (K : PySem.W.Frag) (neg : Bool) : R2 := fun x y H Q => ∃ a b xs, x = .ref a ∧ y = .ref b ∧ ((SqT K H a xs ∧ SqT K H b []) ∨ (SqL K H a xs ∧ SqL K H b [])) ∧ Q (.bl (if neg then !xs.isEmpty else xs.isEmpty)) H
theorem op_eqE (hu : X.A.units < cLine) : OpR X (compareOp .Eq) (rEqE X.K false) := by
  intro pins s σ H x y v u Q I rx ry h
  obtain ⟨a, b, xs, rfl, rfl, h, q⟩ := h
  cases rx; cases ry
  rcases h with ⟨h1, h2⟩ | ⟨h1, h2⟩
  · obtain ⟨its, r1, p1, _⟩ := I.tuple h1
    obtain ⟨its2, r2, p2, _⟩ := I.tuple h2
    cases r2
    have z := SeqAt.RcAt.tuples (e := fun _ => true) (show s.heap.IsTuple a its.toArray from p1) (show s.heap.IsTuple b ([] : List Value).toArray from p2) hu (fun j h1 h2 => absurd h2 (by simp))
    refine z _ _ _ _ ⟨.bl _, H, I, ?_, q⟩
    cases r1 <;> rfl
  · obtain ⟨its, r1, p1, _⟩ := I.list h1
    obtain ⟨its2, r2, p2, _⟩ := I.list h2
    cases r2
    cases r1 with
    | nil =>
      have z := SeqAt.RcAt.lists (e := fun _ => true) p1.isList p2.isList rfl hu (fun j h1 h2 => absurd h2 (by simp))
      exact z _ _ _ _ ⟨.bl _, H, I, rfl, q⟩
    | cons r rs =>
      have z := SeqAt.RcAt.lists_lengths p1.isList p2.isList (by simp) hu
      exact z _ _ _ _ ⟨.bl _, H, I, rfl, q⟩
theorem op_neE (hu : X.A.units < cLine) : OpR X (compareOp .NotEq) (rEqE X.K true) := by
  intro pins s σ H x y v u Q I rx ry h
  obtain ⟨a, b, xs, rfl, rfl, h, q⟩ := h
  cases rx; cases ry
  rcases h with ⟨h1, h2⟩ | ⟨h1, h2⟩
  · obtain ⟨its, r1, p1, _⟩ := I.tuple h1
    obtain ⟨its2, r2, p2, _⟩ := I.tuple h2
    cases r2
    have z := SeqAt.RcNeAt.tuples (e := fun _ => true) (show s.heap.IsTuple a its.toArray from p1) (show s.heap.IsTuple b ([] : List Value).toArray from p2) hu (fun j h1 h2 => absurd h2 (by simp))
    refine z _ _ _ _ ⟨.bl _, H, I, ?_, q⟩
    cases r1 <;> rfl
  · obtain ⟨its, r1, p1, _⟩ := I.list h1
    obtain ⟨its2, r2, p2, _⟩ := I.list h2
    cases r2
    cases r1 with
    | nil =>
      have z := SeqAt.RcNeAt.lists (e := fun _ => true) p1.isList p2.isList rfl hu (fun j h1 h2 => absurd h2 (by simp))
      exact z _ _ _ _ ⟨.bl _, H, I, rfl, q⟩
    | cons r rs =>
      have z := SeqAt.RcNeAt.lists_lengths p1.isList p2.isList (by simp) hu
      exact z _ _ _ _ ⟨.bl _, H, I, rfl, q⟩
def rEqA (K : PySem.W.Frag) (neg : Bool) : R2 := fun x y H Q => rEqM K neg x y H Q ∨ ((scal x y = true ∧ Q (.bl (if neg then !decide (x = y) else decide (x = y))) H) ∨ rEqE K neg x y H Q)
theorem op_eqA (hu : X.A.units + 64 < cLine) : OpR X (compareOp .Eq) (rEqA X.K false) := (op_eqM hu).or ((op_eq (X := X)).or (op_eqE (by omega)))
theorem op_neA (hu : X.A.units + 64 < cLine) : OpR X (compareOp .NotEq) (rEqA X.K true) := (op_neM hu).or ((op_ne (X := X)).or (op_neE (by omega)))
theorem isEmpty_rel {xs : List D} {vs : List V} (h : Rps W.K H m xs vs) : vs.isEmpty = xs.isEmpty := by
  have := h.len
  cases xs <;> cases vs <;> simp_all
theorem sOf_inj {x y : Tx} (h : sOf x = sOf y) : x = y := by
  unfold sOf at h
  injection h with h
  exact congrArg Array.toList h
theorem eqD_ok {neg : Bool} {a b : D} {v u : V} (s : Sim W H m st) (r1 : Rp W.K H m a v) (r2 : Rp W.K H m b u)
    (h : Pg W E m H ((ofO st (eqD st a b)).bind fun r st => .ok (.bl (if neg then !r else r)) st) (kD W Q)) : rEqA W.K neg v u H Q := by
  obtain ⟨r, e, h⟩ := h.ofO
  have gen : ∀ {a b : D} {v u : V}, Rp W.K H m a v → Rp W.K H m b u → eqG st a b = some r → rEqA W.K neg v u H Q := fun {a b v u} r1 r2 e => by
    unfold eqG at e
    split at e
    · rename_i p q hp hq
      split at e
      · rename_i c
        cases e
        exact .inl ⟨p, q, toP_ok s 2 hp r1, toP_ok s 2 hq r2, c.1, c.2.1, c.2.2, kD_now h s (by rw [Rp])⟩
      · cases e
    · cases e
  unfold eqD at e
  split at e
  · rw [Rp] at r1 r2; subst r1 r2; cases e
    refine .inr (.inl ⟨rfl, ?_⟩)
    have z : ∀ i j : Int, decide (V.int i = V.int j) = decide (i = j) := fun i j => by by_cases e : i = j <;> simp [e]
    rw [z]
    exact kD_now h s (by rw [Rp])
  · rw [Rp] at r1 r2; subst r1 r2; cases e
    refine .inr (.inl ⟨rfl, ?_⟩)
    have z : ∀ i j : Tx, decide (V.str (sOf i) = V.str (sOf j)) = decide (i = j) := fun i j => by
      by_cases e : i = j
      · subst e; simp
      · have : ¬ V.str (sOf i) = V.str (sOf j) := fun q => e (sOf_inj (by injection q))
        simp [e, this]
    rw [z]
    exact kD_now h s (by rw [Rp])
  · rw [Rp] at r1 r2; subst r1 r2; cases e
    refine .inr (.inl ⟨rfl, ?_⟩)
    have z : ∀ i j : Bool, decide (V.bl i = V.bl j) = decide (i = j) := fun i j => by by_cases e : i = j <;> simp [e]
    rw [z]
    exact kD_now h s (by rw [Rp])
  · cases e
    obtain ⟨a, vs, rfl, h1, h2⟩ := r1.tup_ref
    obtain ⟨b, us, rfl, g1, g2⟩ := r2.tup_ref
    rw [Rps] at g2; subst g2
    exact .inr (.inr ⟨a, b, vs, rfl, rfl, .inl ⟨h1, g1⟩, by rw [isEmpty_rel h2]; exact kD_now h s (by rw [Rp])⟩)
  · split at e
    · rename_i hx hy
      cases e
      obtain ⟨b1, hb1, vs, h1, h2⟩ := s.at hx
      obtain ⟨b2, hb2, us, g1, g2⟩ := s.at hy
      rw [Rps] at g2; subst g2
      rw [Rp] at r1 r2
      obtain ⟨a1, ha1, rfl⟩ := r1
      obtain ⟨a2, ha2, rfl⟩ := r2
      rw [hb1] at ha1; cases ha1
      rw [hb2] at ha2; cases ha2
      exact .inr (.inr ⟨_, _, vs, rfl, rfl, .inr ⟨SqL.of h1, SqL.of g1⟩, by rw [isEmpty_rel h2]; exact kD_now h s (by rw [Rp])⟩)
    · exact gen r1 r2 e
  · exact gen r1 r2 e
/-! ### among them -/
def rInM (K : PySem.W.Frag) (neg : Bool) : R2 := fun x y H Q => ∃ d ds, Dp K H x d ∧ (Dp K H y (.list ds) ∨ Dp K H y (.tuple ds)) ∧ SeqAt.shaped d = true ∧ SeqAt.shaped (.tuple ds) = true ∧ Q (.bl (if neg then !(ds.any fun z => PyData.eqv z d) else ds.any fun z => PyData.eqv z d)) H
theorem op_inM (hu : X.A.units + 65 < cLine) : OpR X (compareOp .In) (rInM X.K false) := by
  intro pins s σ H x y v u Q I rx ry h
  obtain ⟨d, ds, hd, he, sd, se, q⟩ := h
  obtain ⟨as, r1⟩ := Dp.reads I d x v hd rx
  have hr : X.A.units + 1 + min (PyData.depthAll ds) d.depth < cLine := by
    have h1 := SeqAt.depth_of_shaped sd
    have h2 : min (PyData.depthAll ds) d.depth ≤ d.depth := Nat.min_le_right _ _
    omega
  rcases he with he | he
  · obtain ⟨bs, r2⟩ := Dp.reads I _ y u he ry
    exact SeqAt.in_list_reads r2 r1 (SeqAt.canLay_of_shaped se) (SeqAt.canLay_of_shaped sd) hr ⟨.bl _, H, I, rfl, q⟩
  · obtain ⟨bs, r2⟩ := Dp.reads I _ y u he ry
    exact SeqAt.in_tuple_reads r2 r1 (SeqAt.canLay_of_shaped se) (SeqAt.canLay_of_shaped sd) hr ⟨.bl _, H, I, rfl, q⟩
theorem op_notInM (hu : X.A.units + 65 < cLine) : OpR X (compareOp .NotIn) (rInM X.K true) := by
  intro pins s σ H x y v u Q I rx ry h
  obtain ⟨d, ds, hd, he, sd, se, q⟩ := h
  obtain ⟨as, r1⟩ := Dp.reads I d x v hd rx
  have hr : X.A.units + 1 + min (PyData.depthAll ds) d.depth < cLine := by
    have h1 := SeqAt.depth_of_shaped sd
    have h2 : min (PyData.depthAll ds) d.depth ≤ d.depth := Nat.min_le_right _ _
    omega
  rcases he with he | he
  · obtain ⟨bs, r2⟩ := Dp.reads I _ y u he ry
    exact SeqAt.notIn_list_reads r2 r1 (SeqAt.canLay_of_shaped se) (SeqAt.canLay_of_shaped sd) hr ⟨.bl _, H, I, rfl, q⟩
  · obtain ⟨bs, r2⟩ := Dp.reads I _ y u he ry
    exact SeqAt.notIn_tuple_reads r2 r1 (SeqAt.canLay_of_shaped se) (SeqAt.canLay_of_shaped sd) hr ⟨.bl _, H, I, rfl, q⟩
def rDkIn (neg : Bool) : R2 := fun x y H Q => ∃ a o, y = .ref a ∧ DGet H a x o ∧ Q (.bl (if neg then !o.isSome else o.isSome)) H
theorem op_dkIn (hu : X.A.units + 1 < cLine) : OpR X (compareOp .In) (rDkIn false) := by
  intro pins s σ H x y v u Q I rx ry h
  obtain ⟨a, o, rfl, g, q⟩ := h
  obtain rfl : u = Value.ref a := ry
  exact d_in hu I g rx fun s3 I3 => ⟨.bl _, H, I3, rfl, q⟩
theorem op_dkNotIn (hu : X.A.units + 1 < cLine) : OpR X (compareOp .NotIn) (rDkIn true) := by
  intro pins s σ H x y v u Q I rx ry h
  obtain ⟨a, o, rfl, g, q⟩ := h
  obtain rfl : u = Value.ref a := ry
  exact d_notIn hu I g rx fun s3 I3 => ⟨.bl _, H, I3, rfl, q⟩
def rSgn (neg : Bool) : R2 := fun x y H Q => ∃ (c : Nat) (z : Str), x = .str ⟨#[c]⟩ ∧ y = .str z ∧ Q (.bl (if neg then !decide (c ∈ z.cps.toList) else decide (c ∈ z.cps.toList))) H
def rMem (W : Wd) (neg : Bool) : R2 := fun x y H Q => rSgn neg x y H Q ∨ (rInM W.K neg x y H Q ∨ (rNdIn W.P W.w W.K neg x y H Q ∨ rDkIn neg x y H Q))
theorem op_rMem (hP : X.prog = W.P) (hw : X.w = W.w) (hK : X.K = W.K) (hu : X.A.units + 100 < cLine) : OpR X (compareOp .In) (rMem W false) := by
  have q1 : OpR X (compareOp .In) (rSgn false) := op_in_sign
  have q := q1.or ((op_inM (X := X) (by omega)).or ((op_ndIn (X := X) (by omega)).or (op_dkIn (X := X) (by omega))))
  rw [hK, hP, hw] at q
  exact q
theorem op_rNMem (hP : X.prog = W.P) (hw : X.w = W.w) (hK : X.K = W.K) (hu : X.A.units + 100 < cLine) : OpR X (compareOp .NotIn) (rMem W true) := by
  have q1 : OpR X (compareOp .NotIn) (rSgn true) := op_notIn_sign
  have q := q1.or ((op_notInM (X := X) (by omega)).or ((op_ndNotIn (X := X) (by omega)).or (op_dkNotIn (X := X) (by omega))))
  rw [hK, hP, hw] at q
  exact q
/-! keys -/
mutual
theorem nkD_py : ∀ {d : D} {k : NestedKey}, nkD d = some k → toPW (fun _ => none) d = some (pyNk k)
  | .non, k, h => by rw [nkD] at h; cases h; rfl
  | .int i, k, h => by rw [nkD] at h; cases h; rfl
  | .str x, k, h => by rw [nkD] at h; cases h; rfl
  | .tup ds, k, h => by
    rw [nkD] at h
    split at h
    · rename_i ks e
      cases h
      rw [toPW, nkDs_py e, pyNk]
    · cases h
  | .bl b, k, h => by simp [nkD] at h
  | .loc b, k, h => by simp [nkD] at h
  | .fl b, k, h => by simp [nkD] at h
theorem nkDs_py : ∀ {ds : List D} {ks : List NestedKey}, nkDs ds = some ks → toPWs (fun _ => none) ds = some (pyNks ks)
  | [], ks, h => by rw [nkDs] at h; cases h; rw [toPWs, pyNks]
  | d :: ds, ks, h => by
    rw [nkDs] at h
    split at h
    · rename_i k ks' e1 e2
      cases h
      rw [toPWs, nkD_py e1, nkDs_py e2, pyNks]
    · cases h
end
mutual
theorem nkD_inj : ∀ {d e : D} {k : NestedKey}, nkD d = some k → nkD e = some k → d = e
  | .non, e, k, h, g => by rw [nkD] at h; cases h; cases e <;> simp [nkD] at g; rfl; split at g <;> cases g
  | .int i, e, k, h, g => by
    rw [nkD] at h; cases h
    cases e <;> simp [nkD] at g
    · rw [g]
    · split at g <;> cases g
  | .str x, e, k, h, g => by
    rw [nkD] at h; cases h
    cases e <;> simp [nkD] at g
    · rw [sOf_inj g]
    · split at g <;> cases g
  | .tup ds, e, k, h, g => by
    rw [nkD] at h
    split at h
    · rename_i ks e1
      cases h
      cases e <;> simp [nkD] at g
      split at g
      · rename_i ks' e2
        cases g
        rw [nkDs_inj e1 e2]
      · cases g
    · cases h
  | .bl b, e, k, h, g => by simp [nkD] at h
  | .loc b, e, k, h, g => by simp [nkD] at h
  | .fl b, e, k, h, g => by simp [nkD] at h
theorem nkDs_inj : ∀ {ds es : List D} {ks : List NestedKey}, nkDs ds = some ks → nkDs es = some ks → ds = es
  | [], es, ks, h, g => by
    rw [nkDs] at h; cases h
    cases es with
    | nil => rfl
    | cons e es => rw [nkDs] at g; split at g <;> cases g
  | d :: ds, es, ks, h, g => by
    rw [nkDs] at h
    split at h
    · rename_i k ks' e1 e2
      cases h
      cases es with
      | nil => rw [nkDs] at g; cases g
      | cons e es =>
        rw [nkDs] at g
        split at g
        · rename_i k' ks'' g1 g2
          cases g
          rw [nkD_inj e1 g1, nkDs_inj e2 g2]
        · cases g
    · cases h
end
theorem keyT_ok {d : D} {v : V} (h : keyT d = true) (r : Rp W.K H m d v) : ∃ b k, v = .ref b ∧ nkD d = some k ∧ k.depth ≤ 8 ∧ Dp W.K H (.ref b) (pyNk k) := by
  unfold keyT at h
  split at h
  · split at h
    · rename_i k e
      have hd := of_decide_eq_true h
      have r0 := r
      obtain ⟨a, vs, rfl, _, _⟩ := r0.tup_ref
      exact ⟨a, k, rfl, e, hd, toPW_ok (f := fun _ => none) (fun k p v z => by cases z) (nkD_py e) r⟩
    · cases h
  · cases h
theorem Dent.keys : ∀ {kvs : List (D × D)} {xs : NdX}, Dent W.K H m kvs xs → NdKs W.K H xs
  | [], xs, h => by
    have h : xs = [] := h
    subst h
    intro x hx; cases hx
  | (k, d) :: r, xs, h => by
    obtain ⟨nk, ka, u, v, xs', rfl, h2, h3, h4, h5, h6, h7⟩ := h
    intro x hx
    rcases List.mem_cons.mp hx with rfl | hx
    · exact ⟨toPW_ok (f := fun _ => none) (fun k p v z => by cases z) (nkD_py h2) h4, h3⟩
    · exact Dent.keys h7 x hx
theorem Dent.get {k : D} {nk : NestedKey} (hk : nkD k = some nk) : ∀ {kvs : List (D × D)} {xs : NdX}, Dent W.K H m kvs xs →
    (∀ d, dGet kvs k = some d → ∃ ka u v, atKey xs nk = some (ka, u) ∧ RelV v u ∧ Rp W.K H m d v) ∧ (dGet kvs k = none → atKey xs nk = none)
  | [], xs, h => by
    have h : xs = [] := h
    subst h
    exact ⟨fun d e => (by cases e), fun _ => rfl⟩
  | (k1, d1) :: r, xs, h => by
    obtain ⟨nk1, ka, u, v, xs', rfl, h2, h3, h4, h5, h6, h7⟩ := h
    by_cases e : k1 = k
    · subst e
      rw [hk] at h2; cases h2
      refine ⟨fun d e => ?_, fun e => ?_⟩
      · simp [dGet] at e
        subst e
        exact ⟨ka, u, v, by simp [atKey], h5, h6⟩
      · simp [dGet] at e
    · have e' : ¬ nk1 = nk := fun z => e (nkD_inj h2 (by rw [hk, z]))
      have ih := Dent.get hk h7
      have q1 : dGet ((k1, d1) :: r) k = dGet r k := by simp [dGet, e]
      have q2 : atKey ((nk1, ka, u) :: xs') nk = atKey xs' nk := by simp [atKey, e']
      rw [q1, q2]
      exact ih
theorem Dent.put {k d : D} {nk : NestedKey} {b : Addr} {v : V} {u : Value} (hk : nkD k = some nk) (hd : nk.depth ≤ 8) (rk : Rp W.K H m k (.ref b)) (rv : RelV v u) (rd : Rp W.K H m d v) {kvs : List (D × D)} {xs : NdX} (h : Dent W.K H m kvs xs) :
    Dent W.K H m (dPut kvs k d) (storedH xs nk b u) := by
  have hm : ∀ {kvs : List (D × D)} {xs : NdX}, Dent W.K H m kvs xs → Dent W.K H m (kvs.map fun p => if p.1 = k then (p.1, d) else p) (xs.map (putAt nk u)) := by
    intro kvs
    induction kvs with
    | nil => intro xs h; have h : xs = [] := h; subst h; rfl
    | cons p r ih =>
      obtain ⟨k1, d1⟩ := p
      intro xs h
      obtain ⟨nk1, ka, u1, v1, xs', rfl, h2, h3, h4, h5, h6, h7⟩ := h
      rw [List.map_cons, List.map_cons]
      by_cases e : k1 = k
      · subst e
        rw [hk] at h2; cases h2
        rw [if_pos rfl, show putAt nk u (nk, ka, u1) = (nk, ka, u) by simp [putAt]]
        exact ⟨nk, ka, u, v, _, rfl, hk, h3, h4, rv, rd, ih h7⟩
      · have e' : ¬ nk1 = nk := fun z => e (nkD_inj h2 (by rw [hk, z]))
        rw [if_neg e, show putAt nk u (nk1, ka, u1) = (nk1, ka, u1) by simp [putAt, e']]
        exact ⟨nk1, ka, u1, v1, _, rfl, h2, h3, h4, h5, h6, ih h7⟩
  have ha : ∀ {kvs : List (D × D)} {xs : NdX}, Dent W.K H m kvs xs → Dent W.K H m (kvs ++ [(k, d)]) (xs ++ [(nk, b, u)]) := by
    intro kvs
    induction kvs with
    | nil => intro xs h; have h : xs = [] := h; subst h; exact ⟨nk, b, u, v, [], rfl, hk, hd, rk, rv, rd, rfl⟩
    | cons p r ih =>
      obtain ⟨k1, d1⟩ := p
      intro xs h
      obtain ⟨nk1, ka, u1, v1, xs', rfl, h2, h3, h4, h5, h6, h7⟩ := h
      exact ⟨nk1, ka, u1, v1, _, rfl, h2, h3, h4, h5, h6, ih h7⟩
  obtain ⟨g1, g2⟩ := h.get hk
  unfold dPut storedH
  cases q : dGet kvs k with
  | some d0 =>
    obtain ⟨ka, u0, v0, z, _⟩ := g1 d0 q
    rw [z]
    exact hm h
  | none =>
    rw [g2 q]
    exact ha h
theorem Dent.len : ∀ {kvs : List (D × D)} {xs : NdX}, Dent W.K H m kvs xs → xs.length = kvs.length
  | [], xs, h => by have h : xs = [] := h; subst h; rfl
  | (k, d) :: r, xs, h => by
    obtain ⟨nk, ka, u, v, xs', rfl, h2, h3, h4, h5, h6, h7⟩ := h
    rw [List.length_cons, List.length_cons, Dent.len h7]
theorem kyD_inj {d e : D} {k : Key} (h : kyD d = some k) (g : kyD e = some k) : d = e := by
  cases d <;> simp [kyD] at h <;> cases e <;> simp [kyD] at g <;> subst h <;> simp at g
  · rw [g]
  · rw [sOf_inj g]
theorem kyD_v {d : D} {k : Key} {v : V} (h : kyD d = some k) (r : Rp W.K H m d v) : v = kV k := by
  cases d <;> simp [kyD] at h <;> subst h <;> rw [Rp] at r <;> exact r
theorem keyK_ok {d : D} (h : keyK d = true) : ∃ k, kyD d = some k := by
  cases d <;> simp [keyK] at h <;> exact ⟨_, rfl⟩
theorem Dkt.get {k : D} {ky : Key} (hk : kyD k = some ky) : ∀ {kvs : List (D × D)} {xs : List (Key × V)}, Dkt W.K H m kvs xs →
    (∀ d, dGet kvs k = some d → ∃ v, valV xs ky = some v ∧ Rp W.K H m d v) ∧ (dGet kvs k = none → valV xs ky = none)
  | [], xs, h => by
    have h : xs = [] := h
    subst h
    exact ⟨fun d e => (by cases e), fun _ => rfl⟩
  | (k1, d1) :: r, xs, h => by
    obtain ⟨ky1, v, xs', rfl, h2, h6, h7⟩ := h
    by_cases e : k1 = k
    · subst e
      rw [hk] at h2; cases h2
      refine ⟨fun d e => ?_, fun e => ?_⟩
      · simp [dGet] at e
        subst e
        exact ⟨v, valV_pos rfl, h6⟩
      · simp [dGet] at e
    · have e' : ¬ ky1 = ky := fun z => e (kyD_inj h2 (by rw [hk, z]))
      have ih := Dkt.get hk h7
      have q1 : dGet ((k1, d1) :: r) k = dGet r k := by simp [dGet, e]
      rw [q1, valV_neg e']
      exact ih
theorem Dkt.put {k d : D} {ky : Key} {v : V} (hk : kyD k = some ky) (rd : Rp W.K H m d v) {kvs : List (D × D)} {xs : List (Key × V)} (h : Dkt W.K H m kvs xs) :
    Dkt W.K H m (dPut kvs k d) (putK xs ky v) := by
  have hm : ∀ {kvs : List (D × D)} {xs : List (Key × V)}, Dkt W.K H m kvs xs → Dkt W.K H m (kvs.map fun p => if p.1 = k then (p.1, d) else p) (xs.map fun kv => if kv.1 = ky then (kv.1, v) else kv) := by
    intro kvs
    induction kvs with
    | nil => intro xs h; have h : xs = [] := h; subst h; rfl
    | cons p r ih =>
      obtain ⟨k1, d1⟩ := p
      intro xs h
      obtain ⟨ky1, v1, xs', rfl, h2, h6, h7⟩ := h
      rw [List.map_cons, List.map_cons]
      by_cases e : k1 = k
      · subst e
        rw [hk] at h2; cases h2
        rw [if_pos rfl, if_pos rfl]
        exact ⟨ky, v, _, rfl, hk, rd, ih h7⟩
      · have e' : ¬ ky1 = ky := fun z => e (kyD_inj h2 (by rw [hk, z]))
        rw [if_neg e, if_neg e']
        exact ⟨ky1, v1, _, rfl, h2, h6, ih h7⟩
  have ha : ∀ {kvs : List (D × D)} {xs : List (Key × V)}, Dkt W.K H m kvs xs → Dkt W.K H m (kvs ++ [(k, d)]) (xs ++ [(ky, v)]) := by
    intro kvs
    induction kvs with
    | nil => intro xs h; have h : xs = [] := h; subst h; exact ⟨ky, v, [], rfl, hk, rd, rfl⟩
    | cons p r ih =>
      obtain ⟨k1, d1⟩ := p
      intro xs h
      obtain ⟨ky1, v1, xs', rfl, h2, h6, h7⟩ := h
      exact ⟨ky1, v1, _, rfl, h2, h6, ih h7⟩
  obtain ⟨g1, g2⟩ := h.get hk
  unfold dPut putK
  rw [valV_any]
  cases q : dGet kvs k with
  | some d0 =>
    obtain ⟨v0, z, _⟩ := g1 d0 q
    rw [z]
    exact hm h
  | none =>
    rw [g2 q]
    exact ha h
theorem Dkt.len : ∀ {kvs : List (D × D)} {xs : List (Key × V)}, Dkt W.K H m kvs xs → xs.length = kvs.length
  | [], xs, h => by have h : xs = [] := h; subst h; rfl
  | (k, d) :: r, xs, h => by
    obtain ⟨ky, v, xs', rfl, h2, h6, h7⟩ := h
    rw [List.length_cons, List.length_cons, Dkt.len h7]
theorem loc_at {d : Nat} {v : V} {c : Cell} (s : Sim W H m st) (r : Rp W.K H m (.loc d) v) (h : st[d]? = some c) : ∃ a, v = .ref a ∧ m[d]? = some a ∧ CellOk W H m a c := by
  obtain ⟨b, hb, ok⟩ := s.at h
  rw [Rp] at r
  obtain ⟨a, ha, rfl⟩ := r
  rw [ha] at hb; cases hb
  exact ⟨_, rfl, ha, ok⟩
theorem tup_py {n : Nat} {xs : List D} {vs : List V} {p : PyData} (s : Sim W H m st) (r : Rps W.K H m xs vs) (h : toP st n (.tup xs) = some p) : ∃ ps, p = .tuple ps ∧ DpAll W.K H vs ps := by
  have go : ∀ {f : Nat → Option PyData}, (∀ k p v, f k = some p → Rp W.K H m (.loc k) v → Dp W.K H v p) → toPW f (.tup xs) = some p → ∃ ps, p = .tuple ps ∧ DpAll W.K H vs ps := fun {f} hf h => by
    rw [toPW] at h
    split at h
    · rename_i ps q
      cases h
      exact ⟨ps, rfl, toPWs_ok hf q r⟩
    · cases h
  cases n with
  | zero => exact go (f := fun _ => none) (fun k p v z => by cases z) h
  | succ n =>
    rw [toP] at h
    refine go (fun k p v z rz => ?_) h
    refine toP_ok s (n + 1) (d := .loc k) (p := p) (v := v) ?_ rz
    rw [toP, toPW]; exact z
theorem memS_ok {d : D} {xs : List D} {v : V} {u : Addr} {vs : List V} {r neg : Bool} (s : Sim W H m st) (r1 : Rp W.K H m d v) (hq : SqL W.K H u vs ∨ SqT W.K H u vs) (rx : Rps W.K H m xs vs) (h : memS st d xs = some r) (q : Q (.bl (if neg then !r else r)) H) : rInM W.K neg v (.ref u) H Q := by
  unfold memS at h
  split at h
  · rename_i p ps e1 e2
    split at h
    · rename_i c
      cases h
      obtain ⟨ps', e, hall⟩ := tup_py s rx e2
      cases e
      refine ⟨p, ps, toP_ok s 2 e1 r1, ?_, c.1, c.2, q⟩
      rcases hq with hq | hq
      · exact .inl (.lst hq hall)
      · exact .inr (.tup hq hall)
    · cases h
  · cases h
theorem memD_ok {d e : D} {v u : V} {r neg : Bool} (s : Sim W H m st) (r1 : Rp W.K H m d v) (r2 : Rp W.K H m e u) (h : memD st d e = some r) (q : Q (.bl (if neg then !r else r)) H) : rMem W neg v u H Q := by
  unfold memD at h
  split at h
  · split at h
    · cases h
      rw [Rp] at r1 r2; subst r1 r2
      exact .inl ⟨_, _, rfl, rfl, q⟩
    · cases h
  · obtain ⟨a, vs, rfl, h1, h2⟩ := r2.tup_ref
    exact .inr (.inl (memS_ok s r1 (.inr h1) h2 h q))
  · split at h
    · rename_i hx
      obtain ⟨a, rfl, ha, vs, h1, h2⟩ := loc_at s r2 hx
      exact .inr (.inl (memS_ok s r1 (.inl (SqL.of h1)) h2 h q))
    · rename_i kvs hx
      obtain ⟨a, rfl, ha, xs, h1, h2⟩ := loc_at s r2 hx
      split at h
      · rename_i hk
        cases h
        obtain ⟨b, k, rfl, g1, g2, g3⟩ := keyT_ok hk r1
        refine .inr (.inr (.inl ⟨a, b, xs, k, rfl, rfl, h1, h2.keys, g3, g2, ?_⟩))
        obtain ⟨z1, z2⟩ := h2.get g1
        cases w : dGet kvs d with
        | some d0 =>
          obtain ⟨ka, u0, v0, z, _⟩ := z1 d0 w
          rw [w] at q; rw [z]; exact q
        | none => rw [w] at q; rw [z2 w]; exact q
      · cases h
    · rename_i kvs hx
      obtain ⟨a, rfl, ha, xs, h1, h2⟩ := loc_at s r2 hx
      split at h
      · rename_i hk
        cases h
        obtain ⟨ky, g1⟩ := keyK_ok hk
        have := kyD_v g1 r1; subst this
        refine .inr (.inr (.inr ⟨a, valV xs ky, rfl, DGet.k h1, ?_⟩))
        obtain ⟨z1, z2⟩ := h2.get g1
        cases w : dGet kvs d with
        | some d0 =>
          obtain ⟨v0, z, _⟩ := z1 d0 w
          rw [w] at q; rw [z]; exact q
        | none => rw [w] at q; rw [z2 w]; exact q
      · cases h
    · cases h
  · cases h
def rCmp (W : Wd) (o : COp) : R2 := fun x y H Q => match o with
  | .eq => rEqA W.K false x y H Q
  | .ne => rEqA W.K true x y H Q
  | .lt => ∃ i j, x = .int i ∧ y = .int j ∧ Q (.bl (decide (i < j))) H
  | .le => ∃ i j, x = .int i ∧ y = .int j ∧ Q (.bl (decide (i ≤ j))) H
  | .gt => ∃ i j, x = .int i ∧ y = .int j ∧ Q (.bl (decide (j < i))) H
  | .ge => ∃ i j, x = .int i ∧ y = .int j ∧ Q (.bl (decide (j ≤ i))) H
  | .isN => y = .non ∧ Q (.bl (decide (x = .non))) H
  | .notN => y = .non ∧ Q (.bl (!decide (x = .non))) H
  | .mem => rMem W false x y H Q
  | .nmem => rMem W true x y H Q
theorem op_rCmp {o : COp} {op : CmpOp} (h : copOk o op = true) (hP : X.prog = W.P) (hw : X.w = W.w) (hK : X.K = W.K) (hu : X.A.units + 100 < cLine) : OpR X (compareOp op) (rCmp W o) := by
  cases o <;> cases op <;> simp [copOk] at h
  · have q := op_eqA (X := X) (by omega); rw [hK] at q; exact q
  · have q := op_neA (X := X) (by omega); rw [hK] at q; exact q
  · exact op_lt
  · exact op_le
  · exact op_gt
  · exact op_ge
  · exact op_isN
  · exact op_notN
  · exact op_rMem hP hw hK hu
  · exact op_rNMem hP hw hK hu
theorem Rp.non_iff {d : D} {v : V} (r : Rp W.K H m d v) : decide (v = V.non) = decide (d = D.non) := by
  cases d <;> rw [Rp] at r
  · subst r; rfl
  · subst r; rfl
  · subst r; rfl
  · subst r; rfl
  · obtain ⟨a, vs, rfl, _⟩ := r; rfl
  · obtain ⟨a, _, rfl⟩ := r; rfl
  · obtain ⟨a, vs, rfl, _⟩ := r; rfl
theorem cmp_ok {o : COp} {d e : D} {v u : V} (s : Sim W H m st) (r1 : Rp W.K H m d v) (r2 : Rp W.K H m e u) (h : Pg W E m H (cmpD o d e st) (kD W Q)) : rCmp W o v u H Q := by
  cases o
  · exact eqD_ok (neg := false) s r1 r2 h
  · exact eqD_ok (neg := true) s r1 r2 h
  · unfold cmpD at h
    simp only at h
    split at h
    · rw [Rp] at r1 r2; subst r1 r2
      exact ⟨_, _, rfl, rfl, kD_now h s (by rw [Rp])⟩
    · exact h.elim
  · unfold cmpD at h
    simp only at h
    split at h
    · rw [Rp] at r1 r2; subst r1 r2
      exact ⟨_, _, rfl, rfl, kD_now h s (by rw [Rp])⟩
    · exact h.elim
  · unfold cmpD at h
    simp only at h
    split at h
    · rw [Rp] at r1 r2; subst r1 r2
      exact ⟨_, _, rfl, rfl, kD_now h s (by rw [Rp])⟩
    · exact h.elim
  · unfold cmpD at h
    simp only at h
    split at h
    · rw [Rp] at r1 r2; subst r1 r2
      exact ⟨_, _, rfl, rfl, kD_now h s (by rw [Rp])⟩
    · exact h.elim
  · unfold cmpD at h
    simp only at h
    split at h
    · rw [Rp] at r2; subst r2
      exact ⟨rfl, by rw [r1.non_iff]; exact kD_now h s (by rw [Rp])⟩
    · exact h.elim
  · unfold cmpD at h
    simp only at h
    split at h
    · rw [Rp] at r2; subst r2
      exact ⟨rfl, by rw [r1.non_iff]; exact kD_now h s (by rw [Rp])⟩
    · exact h.elim
  · obtain ⟨r, e, h⟩ := h.ofO
    exact memD_ok (neg := false) s r1 r2 e (kD_now h s (by rw [Rp]; rfl))
  · obtain ⟨r, e, h⟩ := h.ofO
    exact memD_ok (neg := true) s r1 r2 e (kD_now h s (by rw [Rp]; rfl))

/-! ### items, slices, fields -/
/-- what a list or a tuple holds -/
theorem seqD_ok {d : D} {v : V} {xs : List D} (s : Sim W H m st) (r : Rp W.K H m d v) (h : seqD st d = some xs) : ∃ a vs, v = .ref a ∧ (SqL W.K H a vs ∨ SqT W.K H a vs) ∧ Rps W.K H m xs vs := by
  unfold seqD at h
  split at h
  · cases h
    obtain ⟨a, vs, rfl, h1, h2⟩ := r.tup_ref
    exact ⟨a, vs, rfl, .inr h1, h2⟩
  · split at h
    · rename_i hx
      cases h
      obtain ⟨b, hb, vs, h1, h2⟩ := s.at hx
      rw [Rp] at r
      obtain ⟨a, ha, rfl⟩ := r
      rw [ha] at hb; cases hb
      exact ⟨_, vs, rfl, .inl (SqL.of h1), h2⟩
    · cases h
  · cases h
    rw [Rp] at r
    obtain ⟨a, vs, rfl, h1, h2⟩ := r
    exact ⟨a, vs, rfl, .inl h1.l, h2⟩
  · cases h
theorem lstD_ok {d : D} {v : V} {xs : List D} (s : Sim W H m st) (r : Rp W.K H m d v) (h : lstD st d = some xs) : ∃ a vs, v = .ref a ∧ SqL W.K H a vs ∧ Rps W.K H m xs vs := by
  unfold lstD at h
  split at h
  · split at h
    · rename_i hx
      cases h
      obtain ⟨b, hb, vs, h1, h2⟩ := s.at hx
      rw [Rp] at r
      obtain ⟨a, ha, rfl⟩ := r
      rw [ha] at hb; cases hb
      exact ⟨_, vs, rfl, SqL.of h1, h2⟩
    · cases h
  · cases h
    rw [Rp] at r
    obtain ⟨a, vs, rfl, h1, h2⟩ := r
    exact ⟨a, vs, rfl, h1.l, h2⟩
  · cases h
theorem atI_rel {ds : List D} {vs : List V} {i : Int} {d : D} (r : Rps W.K H m ds vs) (h : atI ds i = some d) : ∃ v, atI vs i = some v ∧ Rp W.K H m d v := by
  unfold atI at h ⊢
  rw [r.len]
  obtain ⟨j, h1, h2⟩ := Option.bind_eq_some_iff.mp h
  obtain ⟨v, h3, h4⟩ := r.get h2
  exact ⟨v, by rw [h1]; exact h3, h4⟩
theorem ixS_ok {d e : D} {v u : V} (s : Sim W H m st) (r1 : Rp W.K H m d v) (r2 : Rp W.K H m e u) (h : Pg W E m H (ixS d e st) (kD W Q)) : rIx W.K v u H Q := by
  unfold ixS at h
  split at h
  · rename_i i
    rw [Rp] at r2; subst r2
    split at h
    · rename_i x
      obtain ⟨c, h⟩ := h.ite
      obtain ⟨a, e, h⟩ := h.ofO
      rw [Rp] at r1; subst r1
      refine .inr (.inr ⟨sOf x, i, a, rfl, rfl, by rw [sOf_len]; exact lim_le c, by show atI x.toArray.toList i = _; rw [List.toList_toArray]; exact e, ?_⟩)
      exact kD_now h s (by rw [Rp]; rfl)
    · obtain ⟨xs, e, h⟩ := h.ofO
      obtain ⟨a, vs, rfl, h1, h2⟩ := seqD_ok s r1 e
      have h' : ∃ y, atI xs i = some y ∧ Pg W E m H (.ok y st) (kD W Q) := by
        cases q : atI xs i with
        | some y => rw [q] at h; exact ⟨y, rfl, h⟩
        | none => rw [q] at h; exact h.elim
      obtain ⟨y, e2, h⟩ := h'
      obtain ⟨z, e3, rz⟩ := atI_rel h2 e2
      rcases h1 with h1 | h1
      · exact .inl ⟨a, vs, i, z, rfl, rfl, h1, e3, kD_now h s rz⟩
      · exact .inr (.inl ⟨a, vs, i, z, rfl, rfl, h1, e3, kD_now h s rz⟩)
  · exact h.elim
def rDkIx : R2 := fun x y H Q => ∃ a v, x = .ref a ∧ DGet H a y (some v) ∧ Q v H
open PyProof.Rows PySem.Calls in
theorem ixTy {prog : Program} {w : World} {A : Around} {Er : Value → Shared → Prop} {s : Shared} {value slice : Expr} {v u : Value} {Qr : Value → Shared → Prop} (hT : s.TypeIs v "dict")
    (hs : subscripted slice false v u = operate [v, u] (getItem v u)) (h : wpAny (model prog w) A (getItem v u) Qr Er s) : wpAny (model prog w) A (subscriptTail value slice v u) Qr Er s := by
  unfold subscriptTail
  refine wpAny_bind ?_
  rw [getitemInPython_of_ne hT.not_modules]
  refine wpAny_bind (wpAny_specialOf hT PySem.F.slot_dict_getitem.lookup ?_)
  have fin : wpAny (model prog w) A (subscripted slice false v u) (fun r s₃ => wpAny (model prog w) A (letTemporaryGo value v r >>= fun _ => pure r) Qr Er s₃) Er s := by
    rw [hs]
    exact wpAny_operating (wpAny_mono h (fun r s₃ h₃ => wpAny_bind (wpAny_letTemporaryGo (wpAny_pure h₃))) fun _ _ x => x)
  first
    | exact wpAny_pure (wpAny_bind fin)
    | exact wpAny_bind (wpAny_pure (wpAny_bind fin))
    | exact wpAny_bind fin
open PyProof.Rows PySem.Calls in
theorem ix_nd (hu : X.A.units + 9 < cLine) : IxR X (rNdIx X.prog X.w X.K) := by
  intro value slice pins s σ H x y v u Q I rx ry h hs
  obtain ⟨a, b, xs, k, ka, w', v', rfl, rfl, e, hk, r⟩ := id h
  obtain rfl : v = Value.ref a := rx
  obtain ⟨_, _, dd⟩ := nd_at I e hk
  exact ixTy dd.typeIs hs (nd_getItem hu I (x := .ref a) (rfl : RelV (.ref a) (Value.ref a)) ry h)
open PyProof.Rows PySem.Calls in
theorem ix_dk (hu : X.A.units + 1 < cLine) : IxR X rDkIx := by
  intro value slice pins s σ H x y v u Q I rx ry h hs
  obtain ⟨a, v', rfl, g, q⟩ := h
  obtain rfl : v = Value.ref a := rx
  exact ixTy (dict_typeIs I g) hs (d_getItem hu I g ry fun w' s' I' rw' => (show EP X pins σ Q w' s' from ⟨v', H, I', rw', q⟩))
def rIxA (W : Wd) : R2 := fun x y H Q => rIx W.K x y H Q ∨ (rNdIx W.P W.w W.K x y H Q ∨ rDkIx x y H Q)
theorem ix_A (hP : X.prog = W.P) (hw : X.w = W.w) (hK : X.K = W.K) (hu : X.A.units + 100 < cLine) : IxR X (rIxA W) := by
  have q := (ix_seq (X := X)).or ((ix_nd (X := X) (by omega)).or (ix_dk (X := X) (by omega)))
  rw [hK, hP, hw] at q
  exact q
theorem ix_ok {d e : D} {v u : V} (s : Sim W H m st) (r1 : Rp W.K H m d v) (r2 : Rp W.K H m e u) (h : Pg W E m H (ixD d e st) (kD W Q)) : rIxA W v u H Q := by
  have ofO_g : ∀ {o : Option D}, Pg W E m H (ofO st o) (kD W Q) → ∃ y, o = some y ∧ Pg W E m H (.ok y st) (kD W Q) := fun {o} h => by
    cases o with
    | some y => exact ⟨y, rfl, h⟩
    | none => exact h.elim
  unfold ixD at h
  split at h
  · split at h
    · rename_i hx
      obtain ⟨hk, h⟩ := h.ite
      obtain ⟨y, ey, h⟩ := ofO_g h
      obtain ⟨a, rfl, ha, xs, h1, h2⟩ := loc_at s r1 hx
      obtain ⟨b, k, rfl, g1, g2, g3⟩ := keyT_ok hk r2
      obtain ⟨ka, u0, v0, z, z1, z2⟩ := (h2.get g1).1 y ey
      exact .inr (.inl ⟨a, b, xs, k, ka, u0, v0, rfl, rfl, h1, h2.keys, g3, g2, z, z1, kD_now h s z2⟩)
    · rename_i hx
      obtain ⟨hk, h⟩ := h.ite
      obtain ⟨y, ey, h⟩ := ofO_g h
      obtain ⟨a, rfl, ha, xs, h1, h2⟩ := loc_at s r1 hx
      obtain ⟨ky, g1⟩ := keyK_ok hk
      have := kyD_v g1 r2; subst this
      obtain ⟨v0, z, z2⟩ := (h2.get g1).1 y ey
      exact .inr (.inr ⟨a, v0, rfl, by have := DGet.k (k := ky) h1; rw [z] at this; exact this, kD_now h s z2⟩)
    · exact .inl (ixS_ok s r1 r2 h)
  · exact .inl (ixS_ok s r1 r2 h)
theorem cut_rel {ds : List D} {vs : List V} {lo hi : Option Int} (r : Rps W.K H m ds vs) : Rps W.K H m (cutD ds lo hi) (cutV vs lo hi) := by
  unfold cutD cutV
  rw [r.len]
  exact (r.drop _).take _
def rSl (K : PySem.W.Frag) : V → Option Int → Option Int → Hp → VK → Prop := fun x lo hi H Q => rSlS x lo hi H Q ∨ (rSlA K x lo hi H Q ∨ rSlL K x lo hi H Q)
theorem op_rSl (hK : X.K = W.K) : SlR X (rSl W.K) := by
  have q := (sl_str (X := X)).or ((sl_tupA (X := X)).or (sl_list (X := X)))
  rw [hK] at q
  exact q
theorem sl_ok {d : D} {v : V} {lo hi : Option Int} (s : Sim W H m st) (r1 : Rp W.K H m d v) (h : Pg W E m H (slD d lo hi st) (kD W Q)) : rSl W.K v lo hi H Q := by
  unfold slD at h
  split at h
  · rename_i x
    obtain ⟨c, h⟩ := h.ite
    rw [Rp] at r1; subst r1
    refine .inl ⟨sOf x, rfl, by rw [sOf_len]; exact lim_le c, kD_now h s ?_⟩
    rw [Rp]
    unfold cutS cutD
    rw [sOf_len]
    show V.str (Str.mk (((x.toArray.toList.drop _).take _).toArray)) = _
    rw [List.toList_toArray]
    rfl
  · rename_i xs
    obtain ⟨a, vs, rfl, h1, h2⟩ := r1.tup_ref
    refine .inr (.inl ⟨a, vs, rfl, h1, fun hw => ?_, fun _ p hp => new_tup s hp (cut_rel h2) h⟩)
    have e : cutD xs lo hi = xs := by
      unfold cutD
      rw [h2.len] at hw
      rw [hw.1, hw.2]
      simp
    rw [e] at h
    exact kD_now h s (by rw [Rp]; exact ⟨a, vs, rfl, h1, h2⟩)
  · obtain ⟨xs, e, h⟩ := h.ofO
    obtain ⟨a, vs, rfl, h1, h2⟩ := lstD_ok s r1 e
    exact .inr (.inr ⟨a, vs, rfl, h1, fun p hp => new_lst s hp (cut_rel h2) h⟩)
theorem rev_ok {d : D} {v : V} (s : Sim W H m st) (r1 : Rp W.K H m d v) (h : Pg W E m H (revD d st) (kD W Q)) : (∃ a xs, v = .ref a ∧ SqL W.K H a xs ∧ ∀ p, H p = none → Q (.ref p) (upd H p (.lst xs.reverse))) ∨
    (∃ a xs, v = .ref a ∧ SqT W.K H a xs ∧ ∀ p, H p = none → Q (.ref p) (upd H p (.tup xs.reverse))) ∨ (∃ z : Str, v = .str z ∧ z.length ≤ sizeLine ∧ Q (.str ⟨z.cps.toList.reverse.toArray⟩) H) := by
  unfold revD at h
  split at h
  · obtain ⟨a, vs, rfl, h1, h2⟩ := r1.tup_ref
    exact .inr (.inl ⟨a, vs, rfl, h1, fun p hp => new_tup s hp h2.rev h⟩)
  · obtain ⟨c, h⟩ := h.ite
    rw [Rp] at r1; subst r1
    refine .inr (.inr ⟨_, rfl, by rw [sOf_len]; exact lim_le c, kD_now h s ?_⟩)
    rw [Rp]
    show V.str (sOf _) = _
    unfold sOf
    simp
  · obtain ⟨xs, e, h⟩ := h.ofO
    obtain ⟨a, vs, rfl, h1, h2⟩ := lstD_ok s r1 e
    exact .inl ⟨a, vs, rfl, h1, fun p hp => new_lst s hp h2.rev h⟩
theorem lookupP {α : Type} (f g : Str) (y : α) (fs : List (Str × α)) : ((f, y) :: fs).lookup g = if g = f then some y else fs.lookup g := by
  by_cases h : g = f
  · subst h
    simp [List.lookup]
  · have e : (g == f) = false := by simpa using h
    rw [if_neg h]
    simp [List.lookup, e]
theorem Fsr.lookup {fs : List (Str × D)} {gs : List (Str × V)} (r : Fsr W.K H m fs gs) {f : Str} {d : D} (h : fs.lookup f = some d) : ∃ v, gs.lookup f = some v ∧ Rp W.K H m d v := by
  obtain ⟨r1, r2⟩ := r
  induction fs generalizing gs with
  | nil => cases h
  | cons p fs ih =>
    obtain ⟨g, d'⟩ := p
    cases gs with
    | nil => cases r1
    | cons q gs =>
      obtain ⟨g', v'⟩ := q
      simp only [List.map_cons, List.cons.injEq] at r1 r2
      rw [Rps] at r2
      obtain ⟨v, vs, e, h1, h2⟩ := r2
      cases e
      obtain ⟨rfl, r1⟩ := r1
      rw [lookupP] at h ⊢
      by_cases hf : f = g'
      · rw [if_pos hf] at h ⊢
        cases h
        exact ⟨v', rfl, h1⟩
      · rw [if_neg hf] at h ⊢
        exact ih h r1 h2
theorem Fsr.lookup_none {fs : List (Str × D)} {gs : List (Str × V)} (r : Fsr W.K H m fs gs) {f : Str} (h : fs.lookup f = none) : gs.lookup f = none := by
  have r1 := r.1
  clear r
  induction fs generalizing gs with
  | nil =>
    cases gs with
    | nil => rfl
    | cons q gs => cases r1
  | cons p fs ih =>
    obtain ⟨g, d'⟩ := p
    cases gs with
    | nil => cases r1
    | cons q gs =>
      obtain ⟨g', v'⟩ := q
      simp only [List.map_cons, List.cons.injEq] at r1
      obtain ⟨rfl, r1⟩ := r1
      rw [lookupP] at h ⊢
      by_cases hf : f = g'
      · rw [if_pos hf] at h; cases h
      · rw [if_neg hf] at h ⊢
        exact ih h r1
theorem Fsr.put {fs : List (Str × D)} {gs : List (Str × V)} {f : Str} {d : D} {v : V} (r : Fsr W.K H m fs gs) (h : Rp W.K H m d v) : Fsr W.K H m (putF' f d fs) (putF f v gs) := by
  obtain ⟨r1, r2⟩ := r
  induction fs generalizing gs with
  | nil =>
    cases gs with
    | nil => exact ⟨rfl, Rps.one h⟩
    | cons q gs => cases r1
  | cons p fs ih =>
    obtain ⟨g, d'⟩ := p
    cases gs with
    | nil => cases r1
    | cons q gs =>
      obtain ⟨g', v'⟩ := q
      simp only [List.map_cons, List.cons.injEq] at r1 r2
      rw [Rps] at r2
      obtain ⟨w, vs, e, h1, h2⟩ := r2
      cases e
      obtain ⟨rfl, r1⟩ := r1
      unfold putF' putF
      by_cases hf : g' = f
      · rw [if_pos hf, if_pos hf]
        refine ⟨by simp [r1], ?_⟩
        simp only [List.map_cons]; rw [Rps]
        exact ⟨v, _, rfl, h, h2⟩
      · rw [if_neg hf, if_neg hf]
        obtain ⟨i1, i2⟩ := ih r1 h2
        refine ⟨by simp [i1], ?_⟩
        simp only [List.map_cons]; rw [Rps]
        exact ⟨v', _, rfl, h1, i2⟩

/-! ### isinstance, built-in functions, methods -/
theorem sqT_tyx {a : Addr} {vs : List V} (h : SqT W.K H a vs) : TyX W.K H (.ref a) (.type "tuple") := by
  rcases h with (h | ⟨o, h⟩) | ⟨o, its, n, h, c, _⟩
  · exact .base (.tup h)
  · exact .fTuple h
  · exact .kTuple h c
def tyName : Option Kd → String
  | none => "NoneType"
  | some k => kdName k
theorem kind_ok {d : D} {v : V} {t : Option Kd} (s : Sim W H m st) (r : Rp W.K H m d v) (h : kindD st d = some t) : TyX W.K H v (.type (tyName t)) := by
  cases d <;> unfold kindD at h
  · rw [Rp] at r; cases h; subst r; exact .base .non
  · rw [Rp] at r; cases h; subst r; exact .base (.bl _)
  · rw [Rp] at r; cases h; subst r; exact .base (.int _)
  · rw [Rp] at r; cases h; subst r; exact .base (.str _)
  · cases h
    obtain ⟨a, vs, rfl, h1, h2⟩ := r.tup_ref
    exact sqT_tyx h1
  · simp only at h
    split at h
    · rename_i hx
      cases h
      obtain ⟨b, hb, vs, h1, h2⟩ := s.at hx
      rw [Rp] at r
      obtain ⟨a, ha, rfl⟩ := r
      rw [ha] at hb; cases hb
      exact .base (.lst h1)
    · cases h
  · cases h
theorem kit_kd (t : Option Kd) (k : Kd) : PySem.W.kitOne W.K (.type (tyName t)) (.type (kdName k)) = some (decide (t = some k ∨ (t = some .bool ∧ k = .int))) := by
  cases t with
  | none => cases k <;> rfl
  | some t => cases t <;> cases k <;> rfl
theorem isi_ok {d : D} {v : V} {k : Kd} (s : Sim W H m st) (r1 : Rp W.K H m d v) (h : Pg W E m H (isiD d k st) (kD W Q)) : rIsi W.K [v, .ty (kdName k)] H Q := by
  obtain ⟨t, e, h⟩ := h.ofO
  exact ⟨v, _, _, _, _, rfl, .ty _, kind_ok s r1 e, kit_kd t k, kD_now h s (by rw [Rp])⟩

theorem ints_rel : ∀ {xs : List D} {ns : List Int} {vs : List V}, intsD xs = some ns → Rps W.K H m xs vs → vs = ns.map V.int
  | [], ns, vs, e, r => by rw [intsD] at e; rw [Rps] at r; cases e; subst r; rfl
  | .int i :: xs, ns, vs, e, r => by
    rw [intsD] at e
    rw [Rps] at r
    obtain ⟨v, vs', rfl, h1, h2⟩ := r
    rw [Rp] at h1
    split at e
    · rename_i l q
      cases e
      rw [ints_rel q h2, h1]; rfl
    · cases e
  | .non :: xs, ns, vs, e, r => by simp [intsD] at e
  | .bl _ :: xs, ns, vs, e, r => by simp [intsD] at e
  | .str _ :: xs, ns, vs, e, r => by simp [intsD] at e
  | .tup _ :: xs, ns, vs, e, r => by simp [intsD] at e
  | .loc _ :: xs, ns, vs, e, r => by simp [intsD] at e
  | .fl _ :: xs, ns, vs, e, r => by simp [intsD] at e
theorem strs_rel : ∀ {xs : List D} {ns : List Tx} {vs : List V}, strsD xs = some ns → Rps W.K H m xs vs → vs = (ns.map sOf).map V.str
  | [], ns, vs, e, r => by rw [strsD] at e; rw [Rps] at r; cases e; subst r; rfl
  | .str i :: xs, ns, vs, e, r => by
    rw [strsD] at e
    rw [Rps] at r
    obtain ⟨v, vs', rfl, h1, h2⟩ := r
    rw [Rp] at h1
    split at e
    · rename_i l q
      cases e
      rw [strs_rel q h2, h1]; rfl
    · cases e
  | .non :: xs, ns, vs, e, r => by simp [strsD] at e
  | .bl _ :: xs, ns, vs, e, r => by simp [strsD] at e
  | .int _ :: xs, ns, vs, e, r => by simp [strsD] at e
  | .tup _ :: xs, ns, vs, e, r => by simp [strsD] at e
  | .loc _ :: xs, ns, vs, e, r => by simp [strsD] at e
  | .fl _ :: xs, ns, vs, e, r => by simp [strsD] at e
end
end Z
namespace Z
open PySem L2
section
variable {W : Wd} {E : XK} {X : Cx} {m : List Addr} {H : Hp} {st : Sto} {Q : VK}
theorem digit_ok {x : Tx} {i : Int} (h : digitT x = some i) : PySem.intText? (sOf x) = some i ∧ x.length ≤ 640 := by
  unfold digitT at h
  split at h
  · rename_i c
    split at h
    · rename_i hc
      cases h
      have hc' : c = 48 ∨ c = 49 ∨ c = 50 ∨ c = 51 ∨ c = 52 ∨ c = 53 ∨ c = 54 ∨ c = 55 ∨ c = 56 ∨ c = 57 := by omega
      refine ⟨?_, by simp⟩
      rcases hc' with rfl | rfl | rfl | rfl | rfl | rfl | rfl | rfl | rfl | rfl <;> decide +kernel
    · cases h
  · cases h
def rLstS : List V → Hp → VK → Prop := fun xs H Q => ∃ x : Str, xs = [.str x] ∧ x.cps.size ≤ sizeLine ∧ ∀ l, H l = none → Q (.ref l) (upd H l (.lst (x.cps.toList.map fun c => V.str ⟨#[c]⟩)))
theorem call_listS (hc : X.calm = true) : CallR X (.type "list") rLstS := by
  intro pins s σ H xs us Q I r h
  obtain ⟨x, rfl, hl, q⟩ := h
  obtain ⟨u, rfl, rx⟩ := vals1 r
  obtain ⟨t, rfl⟩ := rx
  refine call_list_str (I.ok.hd hc) x t (fun h' tk acc c' kp e hi => ⟨.ref s.heap.objs.size, _, I.laid kp (Nat.le_refl _) (show ObjOk X.prog X.w _ h' _ (.lst (x.cps.toList.map fun c => V.str ⟨#[c]⟩)) from ⟨?_, acc.toList, c', ?_, by rw [Array.toArray_toList]; exact e⟩), rfl, q _ (I.hok.fresh (Nat.le_refl _))⟩) hl
  · rw [List.length_map, Array.length_toList]; exact hl
  · have hs := hi.1
    refine vals_of_at (by rw [List.length_map, Array.length_toList, Array.length_toList]; exact hs.symm) fun j y u hy hu => ?_
    obtain ⟨c, t', hc', rfl⟩ := hi.2 j u (by rw [← hu, Array.getElem?_toList])
    rw [List.getElem?_map, Array.getElem?_toList, hc'] at hy
    cases hy
    exact ⟨t', rfl⟩
def rBi (W : Wd) (b : Bi) : List V → Hp → VK → Prop := fun xs H Q => match b with
  | .len => (∃ p ys, xs = [.ref p] ∧ (SqL W.K H p ys ∨ SqT W.K H p ys) ∧ Q (.int ys.length) H) ∨ (∃ z, xs = [.str z] ∧ z.length ≤ sizeLine ∧ Q (.int z.length) H)
  | .int => ((∃ i, xs = [.int i] ∧ Q (.int i) H) ∨ ∃ k, xs = [.bl k] ∧ Q (.int (if k then 1 else 0)) H) ∨ (∃ a n, xs = [.str a] ∧ PySem.intText? a = some n ∧ a.length ≤ 640 ∧ Q (.int n) H)
  | .list => (∃ p ys, xs = [.ref p] ∧ (SqL W.K H p ys ∨ SqT W.K H p ys) ∧ ∀ l, H l = none → Q (.ref l) (upd H l (.lst ys))) ∨ rLstS xs H Q
  | .tuple => ∃ p ys, xs = [.ref p] ∧ ((SqL W.K H p ys ∧ ∀ l, H l = none → Q (.ref l) (upd H l (.tup ys))) ∨ (SqT W.K H p ys ∧ Q (.ref p) H))
  | .str => (∃ i, xs = [.int i] ∧ i.natAbs.log2 < 1920 ∧ Q (.str (toString i)) H) ∨ ∃ a, xs = [.str a] ∧ Q (.str a) H
  | .sum => rSum W.K xs H Q
def biVal : Bi → Value
  | .len => .builtin "len" | .int => .type "int" | .list => .type "list" | .tuple => .type "tuple" | .str => .type "str" | .sum => .builtin "sum"
theorem call_rBi (b : Bi) (hK : X.K = W.K) (hc : X.calm = true) : CallR X (biVal b) (rBi W b) := by
  cases b
  · have q := (call_len_seq (X := X)).or (call_len_str (X := X)); rw [hK] at q; exact q
  · exact (call_int1 (X := X)).or (call_int_str (X := X))
  · have q := (call_list_of (X := X)).or (call_listS hc); rw [hK] at q; exact q
  · have q := call_tuple_of (X := X); rw [hK] at q; exact q
  · exact (call_str_int (X := X)).or SkE.call_str_str
  · have q := cr_sum hc; rw [hK] at q; exact q
theorem signs_rel {K : PySem.W.Frag} {H : Hp} {m : List Addr} : ∀ x : Tx, Rps K H m (x.map fun c => D.str [c]) (x.map fun c => V.str ⟨#[c]⟩)
  | [] => by rw [List.map_nil, List.map_nil, Rps]
  | z :: x => by rw [List.map_cons, List.map_cons, Rps]; exact ⟨_, _, rfl, by rw [Rp]; rfl, signs_rel x⟩
theorem digit_str {i : Int} (h0 : 0 ≤ i) (h1 : i < 10) : (toString i : Str) = sOf [48 + i.toNat] := by
  have : i = 0 ∨ i = 1 ∨ i = 2 ∨ i = 3 ∨ i = 4 ∨ i = 5 ∨ i = 6 ∨ i = 7 ∨ i = 8 ∨ i = 9 := by omega
  rcases this with rfl | rfl | rfl | rfl | rfl | rfl | rfl | rfl | rfl | rfl <;> decide +kernel
theorem bi_ok {b : Bi} {d : D} {v : V} (s : Sim W H m st) (r1 : Rp W.K H m d v) (h : Pg W E m H (biD b d st) (kD W Q)) : rBi W b [v] H Q := by
  cases b <;> unfold biD at h <;> simp only at h
  · split at h
    · obtain ⟨c, h⟩ := h.ite
      rw [Rp] at r1; subst r1
      exact .inr ⟨_, rfl, by rw [sOf_len]; exact lim_le c, by rw [sOf_len]; exact kD_now h s (by rw [Rp])⟩
    · obtain ⟨xs, e, h⟩ := h.ofO
      obtain ⟨a, vs, rfl, h1, h2⟩ := seqD_ok s r1 e
      exact .inl ⟨a, vs, rfl, h1, by rw [h2.len]; exact kD_now h s (by rw [Rp])⟩
  · split at h
    · rw [Rp] at r1; subst r1
      exact .inl (.inl ⟨_, rfl, kD_now h s (by rw [Rp])⟩)
    · rw [Rp] at r1; subst r1
      exact .inl (.inr ⟨_, rfl, kD_now h s (by rw [Rp])⟩)
    · obtain ⟨i, e, h⟩ := h.ofO
      rw [Rp] at r1; subst r1
      obtain ⟨e1, e2⟩ := digit_ok e
      exact .inr ⟨_, _, rfl, e1, by rw [sOf_len]; exact e2, kD_now h s (by rw [Rp])⟩
    · exact h.elim
  · split at h
    · rename_i x
      obtain ⟨c, h⟩ := h.ite
      rw [Rp] at r1; subst r1
      refine .inr ⟨sOf x, rfl, by show x.toArray.size ≤ _; rw [List.size_toArray]; exact lim_le c, fun l hl => new_lst s hl ?_ h⟩
      show Rps W.K H m _ ((x.toArray.toList).map fun c => V.str ⟨#[c]⟩)
      rw [List.toList_toArray]
      exact signs_rel x
    · obtain ⟨xs, e, h⟩ := h.ofO
      obtain ⟨a, vs, rfl, h1, h2⟩ := seqD_ok s r1 e
      exact .inl ⟨a, vs, rfl, h1, fun l hl => new_lst s hl h2 h⟩
  · obtain ⟨xs, e, h⟩ := h.ofO
    obtain ⟨a, vs, rfl, h1, h2⟩ := seqD_ok s r1 e
    refine ⟨a, vs, rfl, ?_⟩
    rcases h1 with h1 | h1
    · exact .inl ⟨h1, fun l hl => new_tup s hl h2 h⟩
    · exact .inr ⟨h1, kD_now h s (by rw [Rp]; exact ⟨a, vs, rfl, h1, h2⟩)⟩
  · split at h
    · rename_i i
      obtain ⟨c, h⟩ := h.ite
      rw [Rp] at r1; subst r1
      refine .inl ⟨_, rfl, ?_, by rw [digit_str c.1 c.2]; exact kD_now h s (by rw [Rp])⟩
      have : i = 0 ∨ i = 1 ∨ i = 2 ∨ i = 3 ∨ i = 4 ∨ i = 5 ∨ i = 6 ∨ i = 7 ∨ i = 8 ∨ i = 9 := by omega
      rcases this with rfl | rfl | rfl | rfl | rfl | rfl | rfl | rfl | rfl | rfl <;> decide
    · rw [Rp] at r1; subst r1
      exact .inr ⟨_, rfl, kD_now h s (by rw [Rp])⟩
    · exact h.elim
  · obtain ⟨xs, e, h⟩ := h.ofO
    obtain ⟨a, vs, rfl, h1, h2⟩ := lstD_ok s r1 e
    obtain ⟨ns, e2, h⟩ := h.ofO
    have := ints_rel e2 h2
    subst this
    exact ⟨a, ns, rfl, h1, kD_now h s (by rw [Rp])⟩

/-! ### methods -/
theorem join_ok (sep : Tx) (ys : List Tx) : Txt.join (sOf sep) (ys.map sOf) = sOf (joinT sep ys) := by

  rw [TL.join_eq]
  induction ys with
  | nil => rfl
  | cons x r ih =>
    cases r with
    | nil => rfl
    | cons z r =>
      show sOf x ++ sOf sep ++ Str.join (sOf sep) ((z :: r).map sOf) = sOf (x ++ sep ++ joinT sep (z :: r))
      rw [ih, sOf_app, sOf_app]
theorem strs_rps {K : PySem.W.Frag} {H : Hp} {m : List Addr} : ∀ xs : List Tx, Rps K H m (xs.map D.str) ((xs.map sOf).map V.str)
  | [] => by rw [List.map_nil, List.map_nil, List.map_nil, Rps]
  | z :: x => by rw [List.map_cons, List.map_cons, List.map_cons, Rps]; exact ⟨_, _, rfl, by rw [Rp], strs_rps x⟩
def meTy : Me → String
  | .join => "str"
  | .split => "str"
  | _ => "list"
def rMe0 (W : Wd) (me : Me) : V → List V → Hp → VK → Prop := fun x xs H Q => match me with
  | .pop => rPop x xs H Q
  | .clear => rClear x xs H Q
  | _ => False
def rMe1 (W : Wd) (me : Me) : V → List V → Hp → VK → Prop := fun x xs H Q => match me with
  | .append => rAppend x xs H Q
  | .extend => rExtend x xs H Q ∨ rExtendT W.K x xs H Q
  | .pop => rPopAt x xs H Q
  | .index => rIndexD W.K x xs H Q
  | .join => ∃ a p, ∃ ys : List Str, x = .str a ∧ xs = [.ref p] ∧ (SqL W.K H p (ys.map V.str) ∨ SqT W.K H p (ys.map V.str)) ∧ (ys.map (·.length)).sum + ys.length * a.length ≤ 16777216 ∧ Q (.str (Txt.join a ys)) H
  | .split => ∃ a b : Str, x = .str a ∧ xs = [.str b] ∧ (b.length == 0) = false ∧ a.length + 2 ≤ sizeLine ∧ rNewStrs (Txt.split a b) H Q
  | _ => False
def meId : Me → String
  | .append => "list.append" | .pop => "list.pop" | .extend => "list.extend" | .join => "str.join" | .clear => "list.clear" | .index => "list.index" | .split => "str.split"
theorem recv_ok {me : Me} {d : D} {v : V} (s : Sim W H m st) (r : Rp W.K H m d v) (h : recvOk me st d = true) : tyV W.K (meTy me) v H := by
  have lst : kindD st d = some (some .lst) → tyV W.K "list" v H := fun h => by
    cases d <;> unfold kindD at h <;> simp at h
    split at h
    · rename_i hx
      obtain ⟨b, hb, vs, h1, h2⟩ := s.at hx
      rw [Rp] at r
      obtain ⟨a, ha, rfl⟩ := r
      rw [ha] at hb; cases hb
      exact .inl ⟨rfl, vs, SqL.of h1⟩
    · cases h
  cases me <;> simp only [recvOk, decide_eq_true_eq] at h
  · exact lst h
  · exact lst h
  · exact lst h
  · split at h
    · rw [Rp] at r; subst r; rfl
    · cases h
  · exact lst h
  · exact lst h
  · split at h
    · rw [Rp] at r; subst r; rfl
    · cases h
theorem me0_mt (me : Me) (h : me = .pop ∨ me = .clear) : MtM X (meId me) (rMe0 W me) := by
  rcases h with rfl | rfl
  · exact mt_pop
  · exact mt_clear
theorem list_at {n : Nat} {xs : List D} {v : V} (s : Sim W H m st) (r : Rp W.K H m (.loc n) v) (h : st[n]? = some (.lst xs)) : ∃ a vs, v = .ref a ∧ m[n]? = some a ∧ H a = some (.lst vs) ∧ Rps W.K H m xs vs := by
  obtain ⟨b, hb, vs, h1, h2⟩ := s.at h
  rw [Rp] at r
  obtain ⟨a, ha, rfl⟩ := r
  rw [ha] at hb; cases hb
  exact ⟨_, vs, rfl, ha, h1, h2⟩
/-- a list's change -/
theorem chg_lst {n : Nat} {a : Addr} {xs : List D} {vs : List V} {d : D} {v : V} (s : Sim W H m st) (ha : m[n]? = some a) (r : Rps W.K H m xs vs) (rv : Rp W.K H m d v) (h : Pg W E m H (.ok d (st.set n (.lst xs))) (kD W Q)) : Q v (upd H a (.lst vs)) := by
  have e0 : Ext m m H (upd H a (.lst vs)) := ⟨⟨[], by simp⟩, fun b u h nn => ⟨by
    rw [upd_ne fun z => nn (by rw [z]; exact List.mem_of_getElem? ha)]; exact h, nn⟩⟩
  obtain ⟨s', e⟩ := s.write ha (o := .lst vs) (c := .lst xs) ⟨vs, upd_same, r.up s e0⟩
  exact h.go e s' _ (rv.up s e)
theorem me0_ok {me : Me} {d : D} {v : V} (s : Sim W H m st) (r1 : Rp W.K H m d v) (h : Pg W E m H (me0D me d st) (kD W Q)) : rMe0 W me v [] H Q := by
  unfold me0D at h
  split at h
  · split at h
    · rename_i hx
      obtain ⟨a, vs, rfl, ha, h1, h2⟩ := list_at s r1 hx
      split at h
      · rename_i xs x hl
        rw [List.getLast?_eq_getElem?] at hl
        obtain ⟨y, hy, ry⟩ := h2.get hl
        exact ⟨a, vs, y, rfl, rfl, h1, by rw [h2.len]; exact hy, chg_lst s ha h2.dropLast ry h⟩
      · exact h.elim
    · exact h.elim
  · split at h
    · rename_i hx
      obtain ⟨a, vs, rfl, ha, h1, h2⟩ := list_at s r1 hx
      exact ⟨a, vs, rfl, rfl, h1, chg_lst s ha (by rw [Rps]) (by rw [Rp]) h⟩
    · exact h.elim
  · exact h.elim
theorem me1_mt (me : Me) (hK : X.K = W.K) (hu : X.A.units + 100 < cLine) (h : me ≠ .clear) : MtM X (meId me) (rMe1 W me) := by
  cases me
  · exact mt_append
  · exact mt_popAt
  · have q1 := mt_extend (X := X)
    have q2 := mt_extendT (X := X)
    rw [hK] at q2
    intro pins s σ H x xs v us Q I rx rv h
    rcases h with h | h
    · exact q1 pins s σ H x xs v us Q I rx rv h
    · exact q2 pins s σ H x xs v us Q I rx rv h
  · have q := mt_join (X := X); rw [hK] at q; exact q
  · exact absurd rfl h
  · have q := (mt_indexD (X := X) (by omega)); rw [hK] at q; exact q
  · exact fun pins s σ H x xs v us Q I rx rs h => mt_split (X := X) pins s σ H x xs v us Q I rx rs h
theorem me1_ok {me : Me} {d e : D} {v u : V} (s : Sim W H m st) (r1 : Rp W.K H m d v) (r2 : Rp W.K H m e u) (h : Pg W E m H (me1D me d e st) (kD W Q)) : rMe1 W me v [u] H Q := by
  unfold me1D at h
  split at h
  · split at h
    · rename_i hx
      obtain ⟨c, h⟩ := h.ite
      obtain ⟨a, vs, rfl, ha, h1, h2⟩ := list_at s r1 hx
      exact ⟨a, vs, u, rfl, rfl, h1, by rw [h2.len]; exact lim_lt c, chg_lst s ha (h2.append (.one r2)) (by rw [Rp]) h⟩
    · exact h.elim
  · split at h
    · rename_i hx
      rw [Rp] at r2; subst r2
      split at h
      · rename_i k hk
        split at h
        · rename_i x hxk
          obtain ⟨c, h⟩ := h.ite
          obtain ⟨a, vs, rfl, ha, h1, h2⟩ := list_at s r1 hx
          obtain ⟨y, hy, ry⟩ := h2.get hxk
          obtain ⟨k1, k2, k3, k4⟩ := ixN_seq hk
          have c' : (_ : List D).length ≤ 100000 := c
          exact ⟨a, vs, _, k, y, rfl, rfl, h1, by omega, by omega, by rw [h2.len]; exact k1, hy, chg_lst s ha (h2.erase k) ry h⟩
        · exact h.elim
      · exact h.elim
    · exact h.elim
  · split at h
    · split at h
      · rename_i hx hy
        obtain ⟨c, h⟩ := h.ite
        obtain ⟨a, vs, rfl, ha, h1, h2⟩ := list_at s r1 hx
        obtain ⟨b, us, rfl, hb, g1, g2⟩ := list_at s r2 hy
        exact .inl ⟨a, b, vs, us, rfl, rfl, h1, g1, by rw [h2.len, g2.len]; exact lim_le c, chg_lst s ha (h2.append g2) (by rw [Rp]) h⟩
      · exact h.elim
    · split at h
      · rename_i hx
        obtain ⟨c, h⟩ := h.ite
        obtain ⟨a, vs, rfl, ha, h1, h2⟩ := list_at s r1 hx
        obtain ⟨b, us, rfl, g1, g2⟩ := r2.tup_ref
        exact .inr ⟨a, b, vs, us, rfl, rfl, h1, g1, by rw [h2.len, g2.len]; exact lim_le c, chg_lst s ha (h2.append g2) (by rw [Rp]) h⟩
      · exact h.elim
    · exact h.elim
  · split at h
    · rename_i xs p hx ep
      split at h
      · rename_i ps eps
        obtain ⟨c, h⟩ := h.ite
        split at h
        · rename_i j hj
          obtain ⟨a, vs, rfl, ha, h1, h2⟩ := list_at s r1 hx
          obtain ⟨ps', ee, hall⟩ := tup_py s h2 eps
          cases ee
          obtain ⟨k1, k2, k3⟩ := List.findIdx?_eq_some_iff_getElem.mp hj
          refine ⟨a, u, p, ps, j, ps[j], rfl, rfl, .lst (SqL.of h1) hall, toP_ok s 2 ep r2, c.2, c.1, List.getElem?_eq_getElem k1, k2, fun mm z' hm hz => ?_, kD_now h s (by rw [Rp])⟩
          obtain ⟨hl, rfl⟩ := List.getElem?_eq_some_iff.mp hz
          simpa using k3 mm hm
        · exact h.elim
      · exact h.elim
    · exact h.elim
  · obtain ⟨xs, e1, h⟩ := h.ofO
    obtain ⟨ys, e2, h⟩ := h.ofO
    obtain ⟨c, h⟩ := h.ite
    rw [Rp] at r1; subst r1
    obtain ⟨a, vs, rfl, h1, h2⟩ := seqD_ok s r2 e1
    have := strs_rel e2 h2
    subst this
    refine ⟨_, a, ys.map sOf, rfl, rfl, h1, ?_, ?_⟩
    · have z : (List.map (fun x => x.length) (List.map sOf ys)) = ys.map List.length := by
        rw [List.map_map]; exact List.map_congr_left fun x _ => sOf_len x
      rw [z, sOf_len, List.length_map]
      exact Nat.le_trans c (by decide)
    · rw [join_ok]; exact kD_now h s (by rw [Rp])
  · split at h
    · rename_i x _ c
      obtain ⟨cc, h⟩ := h.ite
      rw [Rp] at r1 r2; subst r1 r2
      refine ⟨_, _, rfl, rfl, rfl, by rw [sOf_len]; exact Nat.le_trans cc.2 (by decide), fun p hp => ?_⟩
      have e : Txt.split (sOf x) (sOf [c]) = (splitT c x).map sOf := SX.split_S (a := x) (b := [c]) (by simp) (by simp [cc.1])
      rw [e]
      exact new_lst s hp (strs_rps _) h
    · exact h.elim
  · exact h.elim
end
end Z
namespace Z
open PySem L2
/-! ### the text's forms -/
section
variable {e o : Expr} {es : List Expr} {env : PySem.Env} {pos apos : Pos} {nm : Str}
theorem star_cons (h : isStar e = false) : starEach (e :: es) env = (false, eval e env) :: starEach es env := by
  cases e <;> first | rfl | cases h
def noStars : List Expr → Bool
  | [] => true
  | e :: es => !isStar e && noStars es
theorem star_plain : ∀ {es : List Expr}, noStars es = true → (backTo pos (starEach es env)).any (·.1) = false
  | [], _ => rfl
  | e :: es, h => by
    rw [noStars, Bool.and_eq_true] at h
    have h1 : isStar e = false := by simpa using h.1
    rw [star_cons h1]
    show (false || (backTo pos (starEach es env)).any (·.1)) = false
    rw [star_plain h.2]; rfl
theorem star_few : ∀ {es : List Expr}, noStars es = true → (backTo pos (starEach es env)).all (fun x => !x.1) = true
  | [], _ => rfl
  | e :: es, h => by
    rw [noStars, Bool.and_eq_true] at h
    have h1 : isStar e = false := by simpa using h.1
    rw [star_cons h1]
    show (true && (backTo pos (starEach es env)).all (fun x => !x.1)) = true
    rw [star_few h.2]; rfl
theorem base_of (h : baseOk o = true) : attributeBase o nm env (eval o env) = eval o env := by
  cases o with
  | Call f as ks p =>
    cases as with
    | nil => cases h
    | cons a as => cases f <;> rfl
  | _ => rfl
theorem plainIx_of (h : isSlice e = false) : PlainIx e := fun o i => by
  cases e <;> first | rfl | cases h
theorem foldSet_of (h : isSetD e = false) : ∀ x, foldedSetIterable e env x = pure x := fun x => by
  cases e <;> first | rfl | cases h
def fewForm (n : Nat) (es : List Expr) (env : PySem.Env) (pos : Pos) : Prop := ((backTo pos (starEach es env)).all (fun x => !x.1) && (backToKw pos (keywordEach [] env)).all (fun x => x.1.isSome)
      && decide (es.length + ([] : List Keyword).length + (if ([] : List Keyword).isEmpty then 0 else 1) < 30)) = true
theorem few_of (h : noStars es = true) (hn : es.length < 20) : fewForm 0 es env pos := by
  unfold fewForm
  rw [star_few h]
  show (true && true && decide (es.length + 0 + 0 < 30)) = true
  rw [decide_eq_true (by omega : es.length + 0 + 0 < 30)]; rfl
theorem meth_form (hb : baseOk o = true) (hl : (apos.endLine == pos.line) = true) (hs : noStars es = true) (hn : es.length < 20) :
    eval (.Call (.Attribute o nm apos) es [] pos) env = (do
      let ov ← eval o env
      standAt apos.atName
      let (f, first) ← holding [ov] (getMethod ov nm (do return (← importBound o env).getD true))
      callWith pos f first (backTo pos (starEach es env)) (backToKw pos (keywordEach [] env))) := by
  have h1 : methodCallForm (es.length + ([] : List Keyword).length) (backTo pos (starEach es env)) (backToKw pos (keywordEach [] env)) = true := few_of hs hn
  have e1 : eval (.Call (.Attribute o nm apos) es [] pos) env = (do
    let ov ← attributeBase o nm env (eval o env)
    standAt apos.atName
    methodCall o nm apos pos env ov (es.length + ([] : List Keyword).length) (backTo pos (starEach es env)) (backToKw pos (keywordEach [] env))) := by rfl
  rw [e1, base_of hb]
  unfold methodCall methodCallPos
  rw [h1, hl]
  rfl
def plainT : Expr → Bool
  | .UnaryOp .Not _ _ => false | .BoolOp .. => false | .IfExp .. => false | .Compare .. => false
  | _ => true
theorem isTrue_of (h : plainT e = true) : ∀ whole, isTrue e env whole = (do let v ← whole; standAt e.pos; holding [v] (truthy v)) := by
  intro whole
  cases e with
  | UnaryOp op x p => cases op <;> first | rfl | cases h
  | BoolOp => cases h
  | IfExp => cases h
  | Compare => cases h
  | _ => rfl
end

/-! ### where one stands -/
structure XOk (W : Wd) (Ns : List Str) (scp : Scope) (k : Nat) (E : XK) (X : Cx) : Prop where
  prog : X.prog = W.P
  w : X.w = W.w
  K : X.K = W.K
  mg : X.mg = W.mg
  base : X.base = W.base
  N : X.N = Ns
  nd : Ns.Nodup
  sc : X.env.scope = scp
  calm : X.calm = true
  room : Room (2 * k + 1) X.A
  pass : Passes (L2.CX X.prog X.w) X E
/-- a function keeps what its evaluation says -/
def spE (W : Wd) (C : Fn) (i : Nat) : Sp := fun vs H Q E => ∃ m st ds, Sim W H m st ∧ Rps W.K H m ds vs ∧ vs.length = (W.ps i).length ∧ Pg W E m H (C i ds st) (kD W Q)
/-- what the program's top has left -/
structure WOk (W : Wd) (cc : CC) : Prop where
  fn : ∀ x i, cc.fns.lookup x = some i → W.mg x = some (.ref (W.fa i)) ∧ PySem.W.keepIn W.K (.ref (W.fa i)) = true ∧ ∃ fi, W.pr.fns[i]? = some fi
  bi : ∀ (i : Nat) (fi : FnIR), W.pr.fns[i]? = some fi → Binds W.K (W.fd i) (W.ps i) [] ∧ (W.ps i).length = fi.np
  gl : ∀ x d, cc.gls.lookup x = some d → ∃ u v, W.mg x = some u ∧ RelV v u ∧ ∀ H m, Rp W.K H m d v
  bl : ∀ x, x ∈ cc.bls → W.mg x = none
  cl : ∀ x c, cc.cls.lookup x = some c → W.mg x = some (.ref (W.ca c)) ∧ c < W.ncl ∧ ∃ f, W.pr.ini c = some f
  cls : ∀ c, c < W.ncl → Cls W.K (W.ca c)
  nf : ∀ c f, c < W.ncl → f ∈ cc.flds → NoAttr W.K (W.ca c) f
  mkk : ∀ c f, W.pr.ini c = some f → Mk W.K (W.ca c) (W.fa f) ∧ ∃ fi, W.pr.fns[f]? = some fi
  mt : ∀ x mi c f, cc.mns.lookup x = some mi → c < W.ncl → W.pr.meth c mi = some f → Meth W.K (W.ca c) x (W.fa f) ∧ ∃ fi, W.pr.fns[f]? = some fi
/-- the functions keep their promises at a level -/
def Lv (W : Wd) (k : Nat) : Prop := ∀ (i : Nat) (fi : FnIR), W.pr.fns[i]? = some fi → FnOk W.P W.w W.K W.mg W.base (L2.CX W.P W.w) (2 * k) (W.fa i) (W.fd i) (W.ps i) (spE W (W.pr.call W.F k) i)
theorem step_np {W : Wd} {E : XK} {m : List Addr} {H : Hp} {pr : Prog} {F : Nat} {C : Cl} {i : Nat} {ds : List D} {st : Sto} {fi : FnIR} {k : D → List Addr → Sto → Hp → Prop} (h : Pg W E m H (pr.step F C i ds st) k) (hi : pr.fns[i]? = some fi) : ds.length = fi.np := by
  unfold Prog.step at h
  rw [hi] at h
  exact h.ite.1
theorem call_np {W : Wd} {E : XK} {m : List Addr} {H : Hp} {pr : Prog} {F k i : Nat} {ds : List D} {st : Sto} {fi : FnIR} {q : D → List Addr → Sto → Hp → Prop} (h : Pg W E m H (pr.call F k i ds st) q) (hi : pr.fns[i]? = some fi) : ds.length = fi.np := by
  cases k with
  | zero => exact h.elim
  | succ k => exact step_np h hi

section
variable {W : Wd} {cc : CC} {Ns : List Str} {scp : Scope} {k : Nat} {E : XK} {X : Cx} {C : Cl}
/-- the functions called -/
def Wd.cl (W : Wd) (k : Nat) : Cl := W.pr.cl W.F k
theorem vis_of {x : Str} (h : visB scp x = true) (hs : X.env.scope = scp) : Vis X.env.scope x := by
  unfold visB at h
  rw [hs]
  split at h
  · exact .inl (by assumption)
  · exact .inr (.inl (by assumption))
  · exact .inr (.inr (by assumption))
  · cases h
theorem gl_of {x : Str} (h : glB scp x = true) (hs : X.env.scope = scp) : Gl X x ∧ (x == ("__debug__" : Str)) = false := by
  unfold glB at h
  rw [Bool.and_eq_true, decide_eq_true_eq, decide_eq_true_eq] at h
  refine ⟨?_, h.2⟩
  show X.env.scope.names.lookup x = _
  rw [hs]; exact h.1
theorem tE_var {i : Nat} {σ : L2.St} {H : Hp} {Q : VK} (h : tE W E (ev C (.var i)) σ H Q) : tVar i σ H Q := by
  obtain ⟨m, ρ, st, s, r, p⟩ := h
  rw [ev] at p
  split at p
  · rename_i d hd
    obtain ⟨v, h1, h2⟩ := r.2 i d hd
    exact ⟨v, h1, kD_now p s h2⟩
  · exact p.elim
theorem tE_cst {d : D} {v : V} {σ : L2.St} {H : Hp} {Q : VK} (h : tE W E (fun _ st => .ok d st) σ H Q) (r : ∀ m, Rp W.K H m d v) : Q v H := by
  obtain ⟨m, ρ, st, s, _, p⟩ := h
  exact kD_now p s (r m)
/-- a bool, by what gives it -/
theorem tE_bl {f : Env → Sto → R D} {σ : L2.St} {H : Hp} {Q : Bool → Hp → Prop} (h : tT W E (fun ρ st => (f ρ st).bind fun x st => bOf st x) σ H Q) : tE W E f σ H fun v H' => ∃ b, v = .bl b ∧ Q b H' := by
  obtain ⟨m, ρ, st, s, r, p⟩ := h
  refine ⟨m, ρ, st, s, r, p.bind.imp fun d m1 st1 H1 e1 s1 p1 v rv => ?_⟩
  cases d with
  | bl b => rw [Rp] at rv; subst rv; exact ⟨b, rfl, p1.now s1⟩
  | _ => exact p1.elim
/-- a truth value read from a test -/
theorem Pg.bOf {β : Type} {m : List Addr} {H : Hp} {d : D} {st : Sto} {f : Bool → Sto → R β} {k : β → List Addr → Sto → Hp → Prop} (h : Pg W E m H ((bOf st d).bind f) k) : ∃ b, d = .bl b ∧ Pg W E m H (f b st) k := by
  cases d with
  | bl b => exact ⟨b, rfl, h⟩
  | _ => exact h.elim

/-! ### boolean connectives -/
theorem and_T {a b : IE} {σ : L2.St} {H : Hp} {Q : Bool → Hp → Prop} (h : tT W E (evT C (.and a b)) σ H Q) : tAnd (tT W E (evT C a)) (tT W E (evT C b)) σ H Q := by
  obtain ⟨m, ρ, st, s, r, p⟩ := h
  have p : Pg W E m H (((ev C a ρ st).bind fun x st => (bOf st x).bind fun k st => if k = true then (ev C b ρ st).bind fun y st => (bOf st y).bind fun j st => .ok (.bl j) st else .ok (.bl false) st).bind fun x st => bOf st x) (kB Q) := by
    unfold evT at p; rw [ev] at p; exact p
  refine ⟨m, ρ, st, s, r, ?_⟩
  unfold evT
  cases h1 : ev C a ρ st with
  | ok x st1 =>
    rw [h1] at p
    cases x with
    | bl k =>
      intro H1 m1 e1 s1
      cases k with
      | true =>
        refine iteT ⟨m1, ρ, st1, s1, r.up s e1, ?_⟩
        have p1 := Pg.up e1 p
        change Pg W E m1 H1 (((ev C b ρ st1).bind fun y st => (bOf st y).bind fun j st => .ok (.bl j) st).bind fun x st => bOf st x) (kB Q) at p1
        show Pg W E m1 H1 ((ev C b ρ st1).bind fun x st => bOf st x) (kB Q)
        cases h2 : ev C b ρ st1 with
        | ok y st2 =>
          rw [h2] at p1
          cases y with
          | bl j => exact p1
          | _ => exact p1.elim
        | exc x st2 => rw [h2] at p1; exact p1
        | stuck => rw [h2] at p1; exact p1
      | false => exact iteF (p H1 m1 e1 s1)
    | _ => exact p.elim
  | exc x st1 => rw [h1] at p; exact p
  | stuck => rw [h1] at p; exact p
theorem or_T {a b : IE} {σ : L2.St} {H : Hp} {Q : Bool → Hp → Prop} (h : tT W E (evT C (.or a b)) σ H Q) : tOr (tT W E (evT C a)) (tT W E (evT C b)) σ H Q := by
  obtain ⟨m, ρ, st, s, r, p⟩ := h
  have p : Pg W E m H (((ev C a ρ st).bind fun x st => (bOf st x).bind fun k st => if k = true then .ok (.bl true) st else (ev C b ρ st).bind fun y st => (bOf st y).bind fun j st => .ok (.bl j) st).bind fun x st => bOf st x) (kB Q) := by
    unfold evT at p; rw [ev] at p; exact p
  refine ⟨m, ρ, st, s, r, ?_⟩
  unfold evT
  cases h1 : ev C a ρ st with
  | ok x st1 =>
    rw [h1] at p
    cases x with
    | bl k =>
      intro H1 m1 e1 s1
      cases k with
      | false =>
        refine iteF ⟨m1, ρ, st1, s1, r.up s e1, ?_⟩
        have p1 := Pg.up e1 p
        change Pg W E m1 H1 (((ev C b ρ st1).bind fun y st => (bOf st y).bind fun j st => .ok (.bl j) st).bind fun x st => bOf st x) (kB Q) at p1
        show Pg W E m1 H1 ((ev C b ρ st1).bind fun x st => bOf st x) (kB Q)
        cases h2 : ev C b ρ st1 with
        | ok y st2 =>
          rw [h2] at p1
          cases y with
          | bl j => exact p1
          | _ => exact p1.elim
        | exc x st2 => rw [h2] at p1; exact p1
        | stuck => rw [h2] at p1; exact p1
      | true => exact iteT (p H1 m1 e1 s1)
    | _ => exact p.elim
  | exc x st1 => rw [h1] at p; exact p
  | stuck => rw [h1] at p; exact p
theorem not_T {a : IE} {σ : L2.St} {H : Hp} {Q : Bool → Hp → Prop} (h : tT W E (evT C (.not a)) σ H Q) : tNot (tT W E (evT C a)) σ H Q := by
  obtain ⟨m, ρ, st, s, r, p⟩ := h
  have p : Pg W E m H (((ev C a ρ st).bind fun x st => (bOf st x).bind fun k st => .ok (.bl (!k)) st).bind fun x st => bOf st x) (kB Q) := by
    unfold evT at p; rw [ev] at p; exact p
  refine ⟨m, ρ, st, s, r, ?_⟩
  unfold evT
  cases h1 : ev C a ρ st with
  | ok x st1 =>
    rw [h1] at p
    cases x with
    | bl k => exact p
    | _ => exact p.elim
  | exc x st1 => rw [h1] at p; exact p
  | stuck => rw [h1] at p; exact p
/-- as values -/
theorem and_V {a b : IE} {σ : L2.St} {H : Hp} {Q : VK} (h : tE W E (ev C (.and a b)) σ H Q) : tAndV (tE W E (ev C a)) (tE W E (ev C b)) σ H Q := by
  obtain ⟨m, ρ, st, s, r, p⟩ := h
  rw [ev] at p
  refine ⟨m, ρ, st, s, r, p.bind.imp fun d m1 st1 H1 e1 s1 p1 v rv => ?_⟩
  obtain ⟨c, rfl, q1⟩ := p1.bOf
  rw [Rp] at rv; subst rv
  refine ⟨c, rfl, ?_⟩
  cases c with
  | true =>
    refine iteT ⟨m1, ρ, st1, s1, r.up s e1, ?_⟩
    rw [if_pos rfl] at q1
    refine q1.bind.imp fun d m2 st2 H2 e2 s2 p2 v rv => ?_
    obtain ⟨j, rfl, q2⟩ := p2.bOf
    exact kD_now q2 s2 rv
  | false =>
    rw [if_neg Bool.false_ne_true] at q1
    exact iteF (kD_now q1 s1 (by rw [Rp]))
theorem or_V {a b : IE} {σ : L2.St} {H : Hp} {Q : VK} (h : tE W E (ev C (.or a b)) σ H Q) : tOrV (tE W E (ev C a)) (tE W E (ev C b)) σ H Q := by
  obtain ⟨m, ρ, st, s, r, p⟩ := h
  rw [ev] at p
  refine ⟨m, ρ, st, s, r, p.bind.imp fun d m1 st1 H1 e1 s1 p1 v rv => ?_⟩
  obtain ⟨c, rfl, q1⟩ := p1.bOf
  rw [Rp] at rv; subst rv
  refine ⟨c, rfl, ?_⟩
  cases c with
  | false =>
    refine iteF ⟨m1, ρ, st1, s1, r.up s e1, ?_⟩
    rw [if_neg Bool.false_ne_true] at q1
    refine q1.bind.imp fun d m2 st2 H2 e2 s2 p2 v rv => ?_
    obtain ⟨j, rfl, q2⟩ := p2.bOf
    exact kD_now q2 s2 rv
  | true =>
    rw [if_pos rfl] at q1
    exact iteT (kD_now q1 s1 (by rw [Rp]))
theorem not_V {a : IE} {σ : L2.St} {H : Hp} {Q : VK} (h : tE W E (ev C (.not a)) σ H Q) : tNotV (tE W E (ev C a)) σ H Q := by
  obtain ⟨m, ρ, st, s, r, p⟩ := h
  rw [ev] at p
  refine ⟨m, ρ, st, s, r, p.bind.imp fun d m1 st1 H1 e1 s1 p1 v rv => ?_⟩
  obtain ⟨c, rfl, q1⟩ := p1.bOf
  rw [Rp] at rv; subst rv
  exact ⟨c, rfl, kD_now q1 s1 (by rw [Rp])⟩
theorem ite_V {c a b : IE} {σ : L2.St} {H : Hp} {Q : VK} (h : tE W E (ev C (.ite c a b)) σ H Q) : tIf (tT W E (evT C c)) (tE W E (ev C a)) (tE W E (ev C b)) σ H Q := by
  obtain ⟨m, ρ, st, s, r, p⟩ := h
  have p : Pg W E m H ((evT C c ρ st).bind fun k st => if k = true then ev C a ρ st else ev C b ρ st) (kD W Q) := by
    rw [ev] at p
    unfold evT
    cases h1 : ev C c ρ st with
    | ok x st1 => rw [h1] at p; exact p
    | exc x st1 => rw [h1] at p; exact p
    | stuck => rw [h1] at p; exact p
  refine ⟨m, ρ, st, s, r, p.bind.imp fun k m1 st1 H1 e1 s1 p1 => ?_⟩
  cases k with
  | true => exact iteT ⟨m1, ρ, st1, s1, r.up s e1, p1⟩
  | false => exact iteF ⟨m1, ρ, st1, s1, r.up s e1, p1⟩
theorem ite_T {c a b : IE} {σ : L2.St} {H : Hp} {Q : Bool → Hp → Prop} (h : tT W E (evT C (.ite c a b)) σ H Q) : tT W E (evT C c) σ H fun k H1 => if k = true then tT W E (evT C a) σ H1 Q else tT W E (evT C b) σ H1 Q := by
  obtain ⟨m, ρ, st, s, r, p⟩ := h
  have p : Pg W E m H ((evT C c ρ st).bind fun k st => if k = true then evT C a ρ st else evT C b ρ st) (kB Q) := by
    unfold evT at p ⊢
    rw [ev] at p
    cases h1 : ev C c ρ st with
    | ok x st1 =>
      rw [h1] at p
      cases x with
      | bl k => cases k <;> exact p
      | _ => exact p.elim
    | exc x st1 => rw [h1] at p; exact p
    | stuck => rw [h1] at p; exact p
  refine ⟨m, ρ, st, s, r, p.bind.imp fun k m1 st1 H1 e1 s1 p1 => ?_⟩
  cases k with
  | true => exact iteT ⟨m1, ρ, st1, s1, r.up s e1, p1⟩
  | false => exact iteF ⟨m1, ρ, st1, s1, r.up s e1, p1⟩
end
end Z
namespace Z
open PySem L2
section
variable {W : Wd} {cc : CC} {Ns : List Str} {scp : Scope} {k : Nat} {E : XK} {X : Cx} {C : Cl}
/-! ### argument lists, calls -/
theorem evs_cons {e : IE} {r : IEs} {σ : L2.St} {H : Hp} {Q : List V → Hp → Prop} (h : tA W E (evs C (.cons e r)) σ H Q) : tCons (tE W E (ev C e)) (tA W E (evs C r)) σ H Q := by
  obtain ⟨m, ρ, st, s, rr, p⟩ := h
  rw [evs] at p
  refine ⟨m, ρ, st, s, rr, p.bind.imp fun d m1 st1 H1 e1 s1 p1 v rv => ?_⟩
  refine ⟨m1, ρ, st1, s1, rr.up s e1, p1.bind.imp fun ds m2 st2 H2 e2 s2 p2 vs rvs => ?_⟩
  exact p2.now s2 _ (by rw [Rps]; exact ⟨v, vs, rfl, rv.up s1 e2, rvs⟩)
theorem evs_nil {σ : L2.St} {H : Hp} {Q : List V → Hp → Prop} (h : tA W E (evs C .nil) σ H Q) : tNil σ H Q := by
  obtain ⟨m, ρ, st, s, rr, p⟩ := h
  rw [evs] at p
  exact p.now s [] (by rw [Rps])
/-- behind the arguments -/
theorem tA_then {es : IEs} {h : List D → Sto → R D} {σ : L2.St} {H : Hp} {Q : VK} {q : List V → Hp → Prop} (w : tE W E (fun ρ st => (evs C es ρ st).bind h) σ H Q)
    (qq : ∀ m st H ds vs, Sim W H m st → Rps W.K H m ds vs → Pg W E m H (h ds st) (kD W Q) → q vs H) : tA W E (evs C es) σ H q := by
  obtain ⟨m, ρ, st, s, rr, p⟩ := w
  exact ⟨m, ρ, st, s, rr, p.bind.imp fun ds m1 st1 H1 e1 s1 p1 vs rvs => qq m1 st1 H1 ds vs s1 rvs p1⟩
theorem PA.of_nil {es : List Expr} (h : es = []) : PA X es (tA W E (evs C .nil)) := by
  subst h
  exact PA.weak pa_nil fun _ _ _ w => evs_nil w
theorem FnOk.at (hX : XOk W Ns scp k E X) {f : Addr} {fd : FuncData} {ps : List Str} {sp : Sp} {j : Nat} (F : FnOk W.P W.w W.K W.mg W.base (L2.CX W.P W.w) j f fd ps sp) : FnOk X.prog X.w X.K X.mg X.base (L2.CX X.prog X.w) j f fd ps sp := by
  rw [hX.prog, hX.w, hX.K, hX.mg, hX.base]; exact F
theorem tup_E {es : IEs} {σ : L2.St} {H : Hp} {Q : VK} (h : tE W E (ev C (.tup es)) σ H Q) : tTup (tA W E (evs C es)) σ H Q := by
  have h' : tE W E (fun ρ st => (evs C es ρ st).bind fun ds st => if ds.length ≤ LIM then .ok (.tup ds) st else .stuck) σ H Q := by
    obtain ⟨m, ρ, st, s, rr, p⟩ := h; rw [ev] at p; exact ⟨m, ρ, st, s, rr, p⟩
  refine tA_then h' fun m st H ds vs s r p => ?_
  obtain ⟨c, p⟩ := p.ite
  exact ⟨by rw [r.len]; exact lim_le c, fun a ha => new_tup s ha r p⟩
theorem lst_E {es : IEs} {σ : L2.St} {H : Hp} {Q : VK} (h : tE W E (ev C (.lst es)) σ H Q) : tLst (tA W E (evs C es)) σ H Q := by
  have h' : tE W E (fun ρ st => (evs C es ρ st).bind fun ds st => if ds.length ≤ LIM then .ok (.loc st.length) (st ++ [.lst ds]) else .stuck) σ H Q := by
    obtain ⟨m, ρ, st, s, rr, p⟩ := h; rw [ev] at p; exact ⟨m, ρ, st, s, rr, p⟩
  refine tA_then h' fun m st H ds vs s r p => ?_
  obtain ⟨c, p⟩ := p.ite
  exact ⟨by rw [r.len]; exact lim_le c, fun a ha => new_lst s ha r p⟩
theorem call_E (hW : WOk W cc) {f : Nat} {fi : FnIR} (hf : W.pr.fns[f]? = some fi) {es : IEs} {σ : L2.St} {H : Hp} {Q : VK} (h : tE W E (ev (W.cl k) (.call f es)) σ H Q) :
    tCall (spE W (W.pr.call W.F k) f) [] E (tA W E (evs (W.cl k) es)) σ H Q := by
  have h' : tE W E (fun ρ st => (evs (W.cl k) es ρ st).bind fun ds st => (W.cl k).call f ds st) σ H Q := by
    obtain ⟨m, ρ, st, s, rr, p⟩ := h; rw [ev] at p; exact ⟨m, ρ, st, s, rr, p⟩
  refine tA_then h' fun m st H ds vs s r p => ?_
  rw [List.append_nil]
  exact ⟨m, st, ds, s, r, by rw [r.len, (hW.bi f fi hf).2]; exact call_np p hf, p⟩
theorem pe_callE (hX : XOk W Ns scp k E X) (hW : WOk W cc) (L : Lv W k) {x : Str} {f : Nat} {es : IEs} {xs : List Expr} {p pos : Pos}
    (hf : cc.fns.lookup x = some f) (hg : glB scp x = true) (hn : noStars xs = true) (ha : PA X xs (tA W E (evs (W.cl k) es))) (hnil : xs = [] → es = .nil) : PE X (.Call (.Name x p) xs [] pos) (tE W E (ev (W.cl k) (.call f es))) := by
  obtain ⟨h1, h2, fi, h3⟩ := hW.fn x f hf
  obtain ⟨g1, g2⟩ := gl_of hg hX.sc
  have b := (hW.bi f fi h3).1
  have F := FnOk.at hX ((L f fi h3).mono (Nat.le_succ _))
  cases xs with
  | nil =>
    cases hnil rfl
    refine PE.weak (pe_call0 F hX.room g1 (by rw [hX.mg]; exact h1) (by rw [hX.K]; exact h2) (by rw [hX.K]; exact b) .nil hX.pass g2) fun σ H Q w => ?_
    have q := call_E hW h3 w
    exact evs_nil (C := W.cl k) (W := W) (E := E) q
  | cons e xs =>
    rw [noStars, Bool.and_eq_true] at hn
    exact PE.weak (pe_call F hX.room g1 (by rw [hX.mg]; exact h1) (by rw [hX.K]; exact h2) (by rw [hX.K]; exact b) .nil hX.pass ha g2 (star_cons (by simpa using hn.1)) (star_plain hn.2)) fun σ H Q w => call_E hW h3 w
/-- a new instance -/
theorem mk_E (hW : WOk W cc) {c f : Nat} {fi : FnIR} (hc : c < W.ncl) (hf : W.pr.ini c = some f) (hfi : W.pr.fns[f]? = some fi) {es : IEs} {σ : L2.St} {H : Hp} {Q : VK} (h : tE W E (ev (W.cl k) (.mk c es)) σ H Q) :
    tMake (W.ca c) (spE W (W.pr.call W.F k) f) [] E (tA W E (evs (W.cl k) es)) σ H Q := by
  have h' : tE W E (fun ρ st => (evs (W.cl k) es ρ st).bind fun ds st => ((W.cl k).call f (.loc st.length :: ds) (st ++ [.ins c []])).bind fun r st' => if r = .non then .ok (.loc st.length) st' else .stuck) σ H Q := by
    obtain ⟨m, ρ, st, s, rr, p⟩ := h
    rw [ev] at p
    have e : (W.cl k).ini c = some f := hf
    rw [e] at p
    exact ⟨m, ρ, st, s, rr, p⟩
  refine tA_then h' fun m st H ds vs s r p x dx hx hdx ne => ?_
  rw [List.append_nil]
  obtain ⟨s1, e1⟩ := s.laid hdx (.own x)
  have hx' : upd H dx (.own x) x = none := by rw [upd_ne (Ne.symm ne)]; exact hx
  obtain ⟨s2, e2⟩ := s1.push hx' (c := .ins c []) (o := .ins (W.ca c) dx []) ⟨dx, [], hc, upd_same, rfl, by simp [Rps]⟩
  have e := e1.trans e2
  have loc0 : (m ++ [x])[st.length]? = some x := by rw [List.getElem?_append_right (by rw [s.len]; exact Nat.le_refl _), s.len]; simp
  have rl : Rp W.K (upd (upd H dx (.own x)) x (.ins (W.ca c) dx [])) (m ++ [x]) (.loc st.length) (.ref x) := by rw [Rp]; exact ⟨x, loc0, rfl⟩
  have p1 := (Pg.up e p).bind
  refine ⟨m ++ [x], _, .loc st.length :: ds, s2, by rw [Rps]; exact ⟨_, _, rfl, rl, r.up s e⟩, ?_, p1.imp fun d m3 st3 H3 e3 s3 p3 v rv => ?_⟩
  · have := call_np p1 hfi
    rw [(hW.bi f fi hfi).2, ← this, List.length_cons, List.length_cons, r.len]
  · obtain ⟨c, p3⟩ := p3.ite
    subst c
    rw [Rp] at rv; subst rv
    exact ⟨rfl, kD_now p3 s3 (rl.up s2 e3)⟩
theorem pe_mkE (hX : XOk W Ns scp k E X) (hW : WOk W cc) (L : Lv W k) {x : Str} {c : Nat} {es : IEs} {xs : List Expr} {p pos : Pos}
    (hf : cc.cls.lookup x = some c) (hg : glB scp x = true) (hn : noStars xs = true) (ha : PA X xs (tA W E (evs (W.cl k) es))) (hnil : xs = [] → es = .nil) : PE X (.Call (.Name x p) xs [] pos) (tE W E (ev (W.cl k) (.mk c es))) := by
  obtain ⟨h1, hc, f, h2⟩ := hW.cl x c hf
  obtain ⟨M, fi, h3⟩ := hW.mkk c f h2
  obtain ⟨g1, g2⟩ := gl_of hg hX.sc
  have b := (hW.bi f fi h3).1
  have F := FnOk.at hX (L f fi h3)
  have hr : Room (2 * k + 1) X.A := hX.room
  have M' : Mk X.K (W.ca c) (W.fa f) := by rw [hX.K]; exact M
  cases xs with
  | nil =>
      cases hnil rfl
      refine PE.weak (pe_make0 M' F hr g1 (by rw [hX.mg]; exact h1) (by rw [hX.K]; exact b) .nil hX.pass g2) fun σ H Q w => ?_
      have q := mk_E hW hc h2 h3 w
      exact evs_nil (C := W.cl k) (W := W) (E := E) q
  | cons e xs =>
      rw [noStars, Bool.and_eq_true] at hn
      exact PE.weak (pe_make M' F hr g1 (by rw [hX.mg]; exact h1) (by rw [hX.K]; exact b) .nil hX.pass ha g2 (star_cons (by simpa using hn.1)) (star_plain hn.2)) fun σ H Q w => mk_E hW hc h2 h3 w
end
end Z
namespace Z
open PySem L2
section
variable {W : Wd} {cc : CC} {Ns : List Str} {scp : Scope} {k : Nat} {E : XK} {X : Cx}
/-! ### own methods -/
/-- o.m(..) by the instance's class -/
def tMethD (X : Cx) (k : Nat) (m : Str) (E : XK) (ta : TE) (t : TA) : TE := fun σ H Q => ta σ H fun x H1 => ∃ a C dx fs f fd ps sp, x = .ref a ∧ H1 a = some (.ins C dx fs) ∧ Cls X.K C ∧ Meth X.K C m f ∧
  FnOk X.prog X.w X.K X.mg X.base (L2.CX X.prog X.w) k f fd ps sp ∧ Binds X.K fd ps [] ∧ fs.lookup m = none ∧ t σ H1 fun vs H2 => sp (x :: vs) H2 Q E
theorem pe_methD {j : Nat} {m : Str} {o : Expr} {es : List Expr} {ta : TE} {t : TA} {apos pos : Pos} {pl : Sem Bool} (he : PE X o ta) (hr : Room j X.A) (hx : Passes (L2.CX X.prog X.w) X E) (ha : PA X es t) (hnil : es = [] → ∀ σ H Q, t σ H Q → Q [] H) (hs : noStars es = true)
    (ht : eval (.Call (.Attribute o m apos) es [] pos) X.env = (do
      let ov ← eval o X.env
      standAt apos.atName
      let (f, first) ← holding [ov] (getMethod ov m pl)
      callWith pos f first (backTo pos (starEach es X.env)) (backToKw pos (keywordEach [] X.env)))) :
    PE X (.Call (.Attribute o m apos) es [] pos) (tMethD X j m E ta t) := by
  refine ⟨fun pins s σ H Q I h => ?_⟩
  refine PySem.W.methodCall_KW (pl := pl) (thn (he.run pins s σ H _ I h) fun u s1 ⟨x, H1, I1, rx, a, C, dx, fs, f, fd, ps, sp, ex, ea, c, hm, F, b, l, q⟩ => ?_) ht
  subst ex
  obtain rfl : u = Value.ref a := rx
  refine getmeth_ok I1 ea c hm l ?_
  cases es with
  | nil =>
    refine PySem.W.callWith_K0 (first := [.ref a]) I1.kIn hm.kp ?_
    exact run_fn (us := [.ref a]) (vs := [.ref a]) (ds := []) (dvs := []) F hr b .nil hx I1 (.cons rfl .nil) (hnil rfl σ H1 _ q)
  | cons e es =>
    rw [noStars, Bool.and_eq_true] at hs
    refine PySem.W.callWith_K (first := [.ref a]) (h₀ := X.base) I.ok.mod.kin hm.kp (thn (ha.run pos pins s1 σ H1 _ I1 q) fun us s2 ⟨vs, H2, I2, r, q2⟩ => ⟨I2.kIn, ?_⟩) (star_cons (by simpa using hs.1)) (star_plain hs.2)
    exact run_fn (us := .ref a :: us) (vs := .ref a :: vs) (ds := []) (dvs := []) F hr b .nil hx I2 (.cons rfl r) (by rw [List.append_nil]; exact q2)
theorem om_E (hX : XOk W Ns scp k E X) (hW : WOk W cc) (L : Lv W k) {x : Str} {mi : Nat} {a : IE} {es : IEs} (hm : cc.mns.lookup x = some mi) {σ : L2.St} {H : Hp} {Q : VK} (h : tE W E (ev (W.cl k) (.om x mi a es)) σ H Q) :
    tMethD X (2 * k + 1) x E (tE W E (ev (W.cl k) a)) (tA W E (evs (W.cl k) es)) σ H Q := by
  obtain ⟨m, ρ, st, s, r, p⟩ := h
  rw [ev] at p
  refine ⟨m, ρ, st, s, r, p.bind.imp fun d m1 st1 H1 e1 s1 p1 v rv => ?_⟩
  cases d with
  | loc n =>
    simp only at p1
    split at p1
    · rename_i c fs hc
      split at p1
      · rename_i f hf hno
        obtain ⟨ad, had, dx, gs, hcl, h1, h2⟩ := s1.at hc
        have rv' := rv
        rw [Rp] at rv'
        obtain ⟨a', ha', rfl⟩ := rv'
        rw [had] at ha'; cases ha'
        obtain ⟨M, fi, hfi⟩ := hW.mt x mi c f hm hcl hf
        have F := FnOk.at hX ((L f fi hfi).mono (Nat.le_succ _))
        refine ⟨ad, W.ca c, dx, gs, W.fa f, W.fd f, W.ps f, _, rfl, h1, by rw [hX.K]; exact hW.cls c hcl, by rw [hX.K]; exact M, F, by rw [hX.K]; exact (hW.bi f fi hfi).1, h2.lookup_none hno, ?_⟩
        refine ⟨m1, ρ, st1, s1, r.up s e1, p1.bind.imp fun ds m2 st2 H2 e2 s2 p2 vs rvs => ?_⟩
        refine ⟨m2, st2, .loc n :: ds, s2, by rw [Rps]; exact ⟨_, _, rfl, rv.up s1 e2, rvs⟩, ?_, p2⟩
        have := call_np p2 hfi
        rw [(hW.bi f fi hfi).2, ← this, List.length_cons, List.length_cons, rvs.len]
      · exact p1.elim
    · exact p1.elim
  | _ => exact p1.elim
theorem pe_omE (hX : XOk W Ns scp k E X) (hW : WOk W cc) (L : Lv W k) {x : Str} {mi : Nat} {a : IE} {es : IEs} {o : Expr} {xs : List Expr} {apos pos : Pos} (hm : cc.mns.lookup x = some mi) (hb : baseOk o = true) (hl : (apos.endLine == pos.line) = true) (hn : xs.length < 20)
    (he : PE X o (tE W E (ev (W.cl k) a))) (hs : noStars xs = true) (ha : PA X xs (tA W E (evs (W.cl k) es))) (hnil : xs = [] → es = .nil) : PE X (.Call (.Attribute o x apos) xs [] pos) (tE W E (ev (W.cl k) (.om x mi a es))) := by
  refine PE.weak (pe_methD he hX.room hX.pass ha (fun e σ H Q w => ?_) hs (meth_form hb hl hs hn)) fun σ H Q w => om_E hX hW L hm w
  cases hnil e
  exact evs_nil w

/-! ### one operand, two operands -/
theorem fld_E (hW : WOk W cc) {a : IE} {f : Str} (hf : f ∈ cc.flds) {σ : L2.St} {H : Hp} {Q : VK} (h : tE W E (ev (W.cl k) (.fld a f)) σ H Q) : tFld W.K (tE W E (ev (W.cl k) a)) f σ H Q := by
  have h' : tE W E (fun ρ st => (ev (W.cl k) a ρ st).bind fun x st => fldD x f st) σ H Q := by
    obtain ⟨m, ρ, st, s, rr, p⟩ := h; rw [ev] at p; exact ⟨m, ρ, st, s, rr, p⟩
  refine h'.one fun m st H d v s r p => ?_
  unfold fldD at p
  split at p
  · split at p
    · rename_i n c fs hc
      obtain ⟨ad, had, dx, gs, hcl, h1, h2⟩ := s.at hc
      rw [Rp] at r
      obtain ⟨a', ha', rfl⟩ := r
      rw [had] at ha'; cases ha'
      have p' : ∃ y, fs.lookup f = some y ∧ Pg W E m H (.ok y st) (kD W Q) := by
        cases q : fs.lookup f with
        | some y => rw [q] at p; exact ⟨y, rfl, p⟩
        | none => rw [q] at p; exact p.elim
      obtain ⟨y, hy, p⟩ := p'
      obtain ⟨z, hz, rz⟩ := h2.lookup hy
      exact ⟨ad, _, dx, gs, z, rfl, h1, hW.cls c hcl, hW.nf c f hcl hf, hz, kD_now p s rz⟩
    · exact p.elim
  · exact p.elim
theorem bl_of {x : Str} (hX : XOk W Ns scp k E X) (hW : WOk W cc) (h : blB cc scp x = true) : Gl X x ∧ X.mg x = none ∧ x ≠ "__name__" ∧ (x == ("__debug__" : Str)) = false := by
  unfold blB at h
  rw [Bool.and_eq_true, Bool.and_eq_true, decide_eq_true_eq, decide_eq_true_eq] at h
  obtain ⟨g1, g2⟩ := gl_of h.1.1 hX.sc
  exact ⟨g1, by rw [hX.mg]; exact hW.bl x h.1.2, h.2, g2⟩
theorem boot_kd (kd : Kd) : bootBuiltins (Str.ofString (kdName kd)) = some (.type (kdName kd)) := by cases kd <;> decide +kernel
theorem boot_bi (b : Bi) : bootBuiltins (biName b) = some (biVal b) := by cases b <;> decide +kernel
theorem isi_E {a : IE} {kd : Kd} {σ : L2.St} {H : Hp} {Q : VK} (h : tE W E (ev (W.cl k) (.isi a kd)) σ H Q) : tCB (rIsi W.K) (tCons (tE W E (ev (W.cl k) a)) (tCons (tC (.ty (kdName kd))) tNil)) σ H Q := by
  have h' : tE W E (fun ρ st => (ev (W.cl k) a ρ st).bind fun x st => isiD x kd st) σ H Q := by
    obtain ⟨m, ρ, st, s, rr, p⟩ := h; rw [ev] at p; exact ⟨m, ρ, st, s, rr, p⟩
  exact h'.one fun m st H d v s r p => isi_ok s r p
theorem pe_isiE (hX : XOk W Ns scp k E X) (hW : WOk W cc) {a : IE} {kd : Kd} {x : Expr} {nm t : Str} {p p2 pos : Pos} (hn : nm = "isinstance") (ht : t = Str.ofString (kdName kd)) (h1 : blB cc scp nm = true) (h2 : blB cc scp t = true) (hs : isStar x = false)
    (he : PE X x (tE W E (ev (W.cl k) a))) : PE X (.Call (.Name nm p) [x, .Name t p2] [] pos) (tE W E (ev (W.cl k) (.isi a kd))) := by
  obtain ⟨g1, g2, g3, g4⟩ := bl_of hX hW h1
  obtain ⟨k1, k2, k3, k4⟩ := bl_of hX hW h2
  subst hn ht
  have c := call_isi (X := X)
  rw [hX.K] at c
  exact PE.weak (pe_callB c g1 g2 (by decide +kernel) (pa_cons he (pa_cons (pe_bltn k1 k2 (boot_kd kd) (v := .ty (kdName kd)) rfl k3 k4) pa_nil) (star_cons hs)) g3 g4 (star_cons hs) rfl) fun σ H Q w => isi_E w
theorem bi_E {a : IE} {b : Bi} {σ : L2.St} {H : Hp} {Q : VK} (h : tE W E (ev (W.cl k) (.bi b a)) σ H Q) : tCB (rBi W b) (tCons (tE W E (ev (W.cl k) a)) tNil) σ H Q := by
  have h' : tE W E (fun ρ st => (ev (W.cl k) a ρ st).bind fun x st => biD b x st) σ H Q := by
    obtain ⟨m, ρ, st, s, rr, p⟩ := h; rw [ev] at p; exact ⟨m, ρ, st, s, rr, p⟩
  exact h'.one fun m st H d v s r p => bi_ok s r p
theorem pe_biE (hX : XOk W Ns scp k E X) (hW : WOk W cc) {a : IE} {b : Bi} {x : Expr} {nm : Str} {p pos : Pos} (hn : nm = biName b) (h1 : blB cc scp nm = true) (hs : isStar x = false) (he : PE X x (tE W E (ev (W.cl k) a))) :
    PE X (.Call (.Name nm p) [x] [] pos) (tE W E (ev (W.cl k) (.bi b a))) := by
  obtain ⟨g1, g2, g3, g4⟩ := bl_of hX hW h1
  subst hn
  have c := call_rBi (X := X) (W := W) b hX.K hX.calm
  have hv := boot_bi b
  refine PE.weak (t := tCB (rBi W b) (tCons (tE W E (ev (W.cl k) a)) tNil)) ?_ fun σ H Q w => bi_E w
  cases b
  · exact pe_callB c g1 g2 hv (pa_cons he pa_nil (star_cons hs)) g3 g4 (star_cons hs) rfl
  · exact pe_callTy c g1 g2 hv (pa_cons he pa_nil (star_cons hs)) g3 g4 (star_cons hs) rfl
  · exact pe_callTy c g1 g2 hv (pa_cons he pa_nil (star_cons hs)) g3 g4 (star_cons hs) rfl
  · exact pe_callTy c g1 g2 hv (pa_cons he pa_nil (star_cons hs)) g3 g4 (star_cons hs) rfl
  · exact pe_callTy c g1 g2 hv (pa_cons he pa_nil (star_cons hs)) g3 g4 (star_cons hs) rfl
  · exact pe_callB c g1 g2 hv (pa_cons he pa_nil (star_cons hs)) g3 g4 (star_cons hs) rfl
theorem me0_E {a : IE} {me : Me} {σ : L2.St} {H : Hp} {Q : VK} (h : tE W E (ev (W.cl k) (.me0 me a)) σ H Q) : tBM0 W.K (meTy me) (rMe0 W me) (tE W E (ev (W.cl k) a)) σ H Q := by
  have h' : tE W E (fun ρ st => (ev (W.cl k) a ρ st).bind fun x st => if recvOk me st x = true then me0D me x st else .stuck) σ H Q := by
    obtain ⟨m, ρ, st, s, rr, p⟩ := h; rw [ev] at p; exact ⟨m, ρ, st, s, rr, p⟩
  refine h'.one fun m st H d v s r p => ?_
  obtain ⟨c, p⟩ := p.ite
  exact ⟨recv_ok s r c, me0_ok s r p⟩
theorem me1_E {a b : IE} {me : Me} {σ : L2.St} {H : Hp} {Q : VK} (h : tE W E (ev (W.cl k) (.me1 me a b)) σ H Q) : tBM W.K (meTy me) (rMe1 W me) (tE W E (ev (W.cl k) a)) (tCons (tE W E (ev (W.cl k) b)) tNil) σ H Q := by
  obtain ⟨m, ρ, st, s, r, p⟩ := h
  rw [ev] at p
  refine ⟨m, ρ, st, s, r, p.bind.imp fun d m1 st1 H1 e1 s1 p1 v rv => ?_⟩
  obtain ⟨c, p1⟩ := p1.ite
  exact ⟨recv_ok s1 rv c, m1, ρ, st1, s1, r.up s e1, p1.bind.imp fun e m2 st2 H2 e2 s2 p2 u ru => me1_ok s2 (rv.up s1 e2) ru p2⟩
theorem pe_me0E (hX : XOk W Ns scp k E X) {a : IE} {me : Me} {x : Expr} {nm : Str} {ap pos : Pos} (hn : nm = meName me) (hb : baseOk x = true) (hl : (ap.endLine == pos.line) = true) (hme : me = .pop ∨ me = .clear) (he : PE X x (tE W E (ev (W.cl k) a))) :
    PE X (.Call (.Attribute x nm ap) [] [] pos) (tE W E (ev (W.cl k) (.me0 me a))) := by
  subst hn
  refine PE.weak (t := tBM0 X.K (meTy me) (rMe0 W me) (tE W E (ev (W.cl k) a))) ?_ fun σ H Q w => by rw [hX.K]; exact me0_E w
  have mt := me0_mt (W := W) (X := X) me hme
  rcases hme with rfl | rfl
  · exact pe_bm0 PySem.F.plainAttrs_list PySem.F.slot_list_pop PySem.F.type_list_pop mt he (base_of hb) hl
  · exact pe_bm0 PySem.F.plainAttrs_list PySem.F.slot_list_clear PySem.F.type_list_clear mt he (base_of hb) hl
theorem pe_me1E (hX : XOk W Ns scp k E X) {a b : IE} {me : Me} {x y : Expr} {nm : Str} {ap pos : Pos} (hn : nm = meName me) (hb : baseOk x = true) (hl : (ap.endLine == pos.line) = true) (hme : me ≠ .clear) (hs : isStar y = false) (he : PE X x (tE W E (ev (W.cl k) a))) (hf : PE X y (tE W E (ev (W.cl k) b))) :
    PE X (.Call (.Attribute x nm ap) [y] [] pos) (tE W E (ev (W.cl k) (.me1 me a b))) := by
  subst hn
  refine PE.weak (t := tBM X.K (meTy me) (rMe1 W me) (tE W E (ev (W.cl k) a)) (tCons (tE W E (ev (W.cl k) b)) tNil)) ?_ fun σ H Q w => by rw [hX.K]; exact me1_E w
  have mt := me1_mt (W := W) (X := X) me hX.K (by have := hX.room.un; omega) hme
  have few : fewForm 0 [y] X.env pos := few_of (by rw [noStars, hs]; rfl) (by simp)
  cases me
  · exact pe_bm PySem.F.plainAttrs_list PySem.F.slot_list_append PySem.F.type_list_append mt he (pa_cons hf pa_nil (star_cons hs)) (base_of hb) few hl (star_cons hs) rfl
  · exact pe_bm PySem.F.plainAttrs_list PySem.F.slot_list_pop PySem.F.type_list_pop mt he (pa_cons hf pa_nil (star_cons hs)) (base_of hb) few hl (star_cons hs) rfl
  · exact pe_bm PySem.F.plainAttrs_list PySem.F.slot_list_extend PySem.F.type_list_extend mt he (pa_cons hf pa_nil (star_cons hs)) (base_of hb) few hl (star_cons hs) rfl
  · exact pe_bm PySem.F.plainAttrs_str PySem.F.slot_str_join PySem.F.type_str_join mt he (pa_cons hf pa_nil (star_cons hs)) (base_of hb) few hl (star_cons hs) rfl
  · exact absurd rfl hme
  · exact pe_bm PySem.F.plainAttrs_list PySem.F.slot_list_index PySem.F.type_list_index mt he (pa_cons hf pa_nil (star_cons hs)) (base_of hb) few hl (star_cons hs) rfl
  · exact pe_bm PySem.F.plainAttrs_str PySem.F.slot_str_split PySem.F.type_str_split mt he (pa_cons hf pa_nil (star_cons hs)) (base_of hb) few hl (star_cons hs) rfl
end
end Z
namespace Z
open PySem L2
section
variable {W : Wd} {cc : CC} {Ns : List Str} {scp : Scope} {k : Nat} {E : XK} {X : Cx} {C : Cl}
/-! ### targets -/
def gNames : List Nat → TGs
  | [] => gNil
  | i :: is => gCons (gName i) (gNames is)
def gIT (K : PySem.W.Frag) : IT → TG
  | .name i => gName i
  | .tup is => gTup K is.length (gNames is)
structure TOk (Ns : List Str) (scp : Scope) (fnS : Str → Bool) (X : Cx) : Prop where
  N : X.N = Ns
  nd : Ns.Nodup
  sc : X.env.scope = scp
  fn : X.fn = fnS
  calm : X.calm = true
theorem pg_nameE {fnS : Str → Bool} (hX : TOk Ns scp fnS X) {i : Nat} {e : Expr} (h : tgB Ns scp fnS i e = true) : PG X e (gName i) ∧ ∃ x p, e = .Name x p := by
  cases e with
  | Name x p =>
    unfold tgB at h
    rw [Bool.and_eq_true, decide_eq_true_eq] at h
    refine ⟨?_, x, p, rfl⟩
    have h2 := h.2
    split at h2
    · rename_i hl
      exact pg_name (by rw [hX.N]; exact hX.nd) (by rw [hX.N]; exact h.1) (.inl (by rw [hX.sc]; exact hl)) (.inr (by rw [hX.sc]; exact hl))
    · rename_i hl
      exact pg_name (by rw [hX.N]; exact hX.nd) (by rw [hX.N]; exact h.1) (.inr (by rw [hX.sc]; exact hl)) (.inl (by rw [hX.fn]; exact h2))
    · cases h2
  | _ => cases h
theorem pg_namesE {fnS : Str → Bool} (hX : TOk Ns scp fnS X) : ∀ {is : List Nat} {es : List Expr}, tgsB Ns scp fnS is es = true → PGs X es (gNames is) ∧ (assignEach es X.env).length = is.length ∧ (assignEach es X.env).findIdx? (·.1) = none
  | [], [], _ => ⟨pgs_nil, rfl, rfl⟩
  | i :: is, e :: es, h => by
    unfold tgsB at h
    rw [Bool.and_eq_true] at h
    obtain ⟨h1, x, p, rfl⟩ := pg_nameE hX h.1
    obtain ⟨h2, h3, h4⟩ := pg_namesE hX h.2
    refine ⟨pgs_cons h1 h2 rfl, ?_, ?_⟩
    · show (assignEach es X.env).length + 1 = is.length + 1
      rw [h3]
    · show List.findIdx? (·.1) ((false, assign (.Name x p) X.env) :: assignEach es X.env) = none
      rw [List.findIdx?_cons, h4]; rfl
  | [], _ :: _, h => by cases h
  | _ :: _, [], h => by cases h
theorem pg_IT {fnS : Str → Bool} (hX : TOk Ns scp fnS X) {t : IT} {e : Expr} (h : chkT Ns scp fnS t e = true) : PG X e (gIT X.K t) := by
  cases t with
  | name i => exact (pg_nameE hX h).1
  | tup is =>
    cases e with
    | Tuple es j pos =>
      obtain ⟨h2, h3, h4⟩ := pg_namesE hX h
      exact pg_tup hX.calm h2 h3 h4
    | _ => cases h
section
variable {m : List Addr} {H : Hp}
theorem names_ok : ∀ {is : List Nat} {ds : List D} {vs : List V} {ρ : Env} {σ : L2.St} {Q : L2.St → Hp → Prop}, Rps W.K H m ds vs → EnvR W H m ρ σ → ds.length = is.length →
    (∀ σ', EnvR W H m ((is.zip ds).foldl (fun ρ p => ρ.set p.1 (some p.2)) ρ) σ' → (∀ vz, (∀ i ∈ is, i ∈ vz) → L2.wipe σ' vz = L2.wipe σ vz) → Q σ' H) → gNames is vs σ H Q
  | [], [], vs, ρ, σ, Q, r, e, _, h => by
    rw [Rps] at r
    exact ⟨r, h σ e fun _ _ => rfl⟩
  | i :: is, d :: ds, vs, ρ, σ, Q, r, e, hl, h => by
    rw [Rps] at r
    obtain ⟨v, vs', rfl, r1, r2⟩ := r
    refine ⟨v, vs', rfl, ?_⟩
    show gNames is vs' (σ.set i (some v)) H Q
    refine names_ok r2 (e.set r1) (by simpa using hl) fun σ' e' hw => h σ' e' fun vz hz => ?_
    rw [hw vz fun j hj => hz j (List.mem_cons_of_mem _ hj)]
    have hi := hz i List.mem_cons_self
    clear hw hz h
    induction vz with
    | nil => simp at hi
    | cons z vz ih =>
      unfold L2.wipe
      by_cases hc : i ∈ vz
      · rw [ih hc]
      · have : i = z := by simpa [hc] using hi
        subst this
        have aux : ∀ (vz : List Nat) (τ : L2.St) (x : Option V), i ∉ vz → L2.wipe (τ.set i x) vz = (L2.wipe τ vz).set i x := by
          intro vz
          induction vz with
          | nil => intro τ x _; rfl
          | cons z vz ih2 =>
            intro τ x hn
            simp only [List.mem_cons, not_or] at hn
            unfold L2.wipe
            rw [ih2 τ x hn.2, List.set_comm _ _ hn.1]
        rw [aux vz σ _ hc, List.set_set]
  | [], _ :: _, _, _, _, _, _, _, hl, _ => by simp at hl
  | _ :: _, [], _, _, _, _, _, _, hl, _ => by simp at hl
/-- a target takes a value -/
theorem gIT_ok {t : IT} {d : D} {v : V} {ρ ρ' : Env} {σ : L2.St} {Q : L2.St → Hp → Prop} (r : Rp W.K H m d v) (e : EnvR W H m ρ σ) (h : asgT ρ t d = some ρ')
    (q : ∀ σ', EnvR W H m ρ' σ' → (∀ vz, (∀ i ∈ t.slots, i ∈ vz) → L2.wipe σ' vz = L2.wipe σ vz) → Q σ' H) : gIT W.K t v σ H Q := by
  cases t with
  | name i =>
    unfold asgT at h
    cases h
    refine q _ (e.set r) fun vz hz => ?_
    have z := names_ok (W := W) (is := [i]) (ds := [d]) (vs := [v]) (Q := fun σ' _ => ∀ vz, (∀ j ∈ [i], j ∈ vz) → L2.wipe σ' vz = L2.wipe σ vz) (Rps.one r) e rfl fun σ' _ hw => hw
    obtain ⟨v', vs', e1, z⟩ := z
    cases e1
    exact z.2 vz hz
  | tup is =>
    cases d with
    | tup ds =>
      unfold asgT at h
      simp only at h
      split at h
      · rename_i hl
        cases h
        obtain ⟨a, vs, rfl, h1, h2⟩ := r.tup_ref
        exact ⟨a, vs, rfl, h1, by rw [h2.len]; exact hl, names_ok h2 e hl q⟩
      · cases h
    | _ => cases h
end
end
end Z
namespace Z
open PySem L2
section
variable {W : Wd} {cc : CC} {Ns : List Str} {scp : Scope} {k : Nat} {E : XK} {X : Cx} {C : Cl}
/-! ### what is walked -/
/-- J walks w, wherever w's list stands as it is -/
def Walks (W : Wd) (J : It) (w : Wk) (m0 : List Addr) (H0 : Hp) : Prop := ∀ H m st, Ext m0 m H0 H → Sim W H m st → w.stays st = true → ∀ i : Nat,
  (∀ d, w.xs[i]? = some d → J.go i H ∧ ∀ x H', J.yld i H x H' → Ext m m H H' ∧ Sim W H' m st ∧ Rp W.K H' m d x) ∧ (w.xs.length ≤ i → J.stop i H)
def tI (W : Wd) (E : XK) (f : Env → Sto → R Wk) : TI := fun σ H Rr => ∃ m ρ st, Sim W H m st ∧ EnvR W H m ρ σ ∧ Pg W E m H (f ρ st) fun w m' _ H' => ∀ J, Walks W J w m' H' → Rr J H'
theorem walks_tup {a : Addr} {vs : List V} {xs : List D} {m : List Addr} {H : Hp} {st : Sto} (s : Sim W H m st) (h1 : SqT W.K H a vs) (h2 : Rps W.K H m xs vs) : Walks W (Itt W.K a) ⟨xs, none⟩ m H := by
  intro H1 m1 st1 e s1 _ i
  have q1 := sqT_up s e h1
  have q2 := h2.up s e
  refine ⟨fun d hd => ?_, fun hi => ⟨vs, q1, by rw [q2.len]; exact hi⟩⟩
  obtain ⟨v, hv, rv⟩ := q2.get hd
  refine ⟨⟨vs, v, q1, hv⟩, fun x H' y => ?_⟩
  have := y.2 vs q1
  rw [hv] at this; cases this
  rw [y.1]
  exact ⟨Ext.refl, s1, rv⟩
theorem walks_fl {a : Addr} {vs : List V} {xs : List D} {m : List Addr} {H : Hp} {st : Sto} (s : Sim W H m st) (h1 : SqF W.K H a vs) (h2 : Rps W.K H m xs vs) : Walks W (Itl W.K a) ⟨xs, none⟩ m H := by
  intro H1 m1 st1 e s1 _ i
  have q1 := (sqF_up s e h1).l
  have q2 := h2.up s e
  refine ⟨fun d hd => ?_, fun hi => ⟨vs, q1, by rw [q2.len]; exact hi⟩⟩
  obtain ⟨v, hv, rv⟩ := q2.get hd
  refine ⟨⟨vs, v, q1, hv⟩, fun x H' y => ?_⟩
  have := y.2 vs q1
  rw [hv] at this; cases this
  rw [y.1]
  exact ⟨Ext.refl, s1, rv⟩
theorem walks_lst {a : Addr} {xs : List D} {n : Nat} {m : List Addr} {H : Hp} (ha : m[n]? = some a) : Walks W (Itl W.K a) ⟨xs, some (n, .lst xs)⟩ m H := by
  intro H1 m1 st1 e s1 hs i
  have hs : decide (st1[n]? = some (.lst xs)) = true := hs
  have hs := of_decide_eq_true hs
  obtain ⟨b, hb, vs, h1, h2⟩ := s1.at hs
  have := e.at ha
  rw [hb] at this; cases this
  refine ⟨fun d hd => ?_, fun hi => ⟨vs, SqL.of h1, by rw [h2.len]; exact hi⟩⟩
  obtain ⟨v, hv, rv⟩ := h2.get hd
  refine ⟨⟨vs, v, SqL.of h1, hv⟩, fun x H' y => ?_⟩
  have := y.2 vs (SqL.of h1)
  rw [hv] at this; cases this
  rw [y.1]
  exact ⟨Ext.refl, s1, rv⟩
theorem rngW_get {lo : Int} {n i : Nat} {d : D} (h : (rngW lo n).xs[i]? = some d) : i < n ∧ d = .int (lo + (i : Int)) := by
  unfold rngW at h
  simp only [List.getElem?_map] at h
  cases q : (List.range n)[i]? with
  | none => rw [q] at h; cases h
  | some j =>
    rw [q] at h
    obtain ⟨h1, h2⟩ := List.getElem?_eq_some_iff.mp q
    simp at h1 h2
    subst h2
    cases h
    exact ⟨h1, rfl⟩
theorem rngW_len {lo : Int} {n : Nat} : (rngW lo n).xs.length = n := by unfold rngW; simp
theorem walks_rng {lo : Int} {n : Nat} {m : List Addr} {H : Hp} : Walks W (Itr lo n) (rngW lo n) m H := by
  intro H1 m1 st1 e s1 _ i
  refine ⟨fun d hd => ?_, fun hi => by rw [rngW_len] at hi; exact hi⟩
  obtain ⟨h1, rfl⟩ := rngW_get hd
  exact ⟨h1, fun x H' y => by rw [y.1]; exact ⟨Ext.refl, s1, by rw [Rp]; exact y.2⟩⟩
theorem enumD_get (xs : List D) : ∀ (k i : Nat), (enumD k xs)[i]? = (xs[i]?).map fun x => D.tup [.int ((k + i : Nat) : Int), x] := by
  induction xs with
  | nil => intro k i; simp [enumD]
  | cons x xs ih =>
    intro k i
    rw [enumD]
    cases i with
    | zero => simp
    | succ i =>
      rw [List.getElem?_cons_succ, List.getElem?_cons_succ, ih]
      have : k + 1 + i = k + (i + 1) := by omega
      rw [this]
theorem enumD_len (xs : List D) : ∀ k, (enumD k xs).length = xs.length := by
  induction xs with
  | nil => intro k; rfl
  | cons x xs ih => intro k; rw [enumD, List.length_cons, List.length_cons, ih]
/-- one turn over numbered items -/
theorem enum_turn {a : Addr} {xs : List D} {vs : List V} {m1 : List Addr} {H1 : Hp} {st1 : Sto} (s1 : Sim W H1 m1 st1) (q1 : SqL W.K H1 a vs) (q2 : Rps W.K H1 m1 xs vs) (i : Nat) :
    (∀ d, (enumD 0 xs)[i]? = some d → (Ite W.K a).go i H1 ∧ ∀ x H', (Ite W.K a).yld i H1 x H' → Ext m1 m1 H1 H' ∧ Sim W H' m1 st1 ∧ Rp W.K H' m1 d x) ∧ ((enumD 0 xs).length ≤ i → (Ite W.K a).stop i H1) := by
  refine ⟨fun d hd => ?_, fun hi => ⟨vs, q1, by rw [enumD_len] at hi; rw [q2.len]; exact hi⟩⟩
  rw [enumD_get] at hd
  obtain ⟨x, hx, rfl⟩ := Option.map_eq_some_iff.mp hd
  obtain ⟨v, hv, rv⟩ := q2.get hx
  refine ⟨⟨vs, v, q1, hv⟩, fun y H' hy => ?_⟩
  obtain ⟨T, z, rfl, hT, rfl, hz⟩ := hy
  have := hz vs q1
  rw [hv] at this; cases this
  obtain ⟨s2, e2⟩ := s1.laid hT (.tup [.int (i : Nat), v])
  refine ⟨e2, s2, ?_⟩
  rw [Rp]
  refine ⟨T, [.int (i : Nat), v], rfl, SqT.of upd_same, ?_⟩
  rw [Rps]
  refine ⟨_, _, rfl, by rw [Rp, Nat.zero_add], .one (rv.up s1 e2)⟩
theorem pi_enumE (hX : XOk W Ns scp k E X) (hW : WOk W cc) {x : Expr} {a : IE} {nm : Str} {p pos tpos : Pos} {elts : List Expr} {kk : Nat} (hn : nm = "enumerate") (h1 : blB cc scp nm = true) (hs : isStar x = false) (he : PE X x (tE W E (ev C a))) :
    PI X (.Tuple elts kk tpos) (.Call (.Name nm p) [x] [] pos) (tI W E (evI C (.enum a))) := by
  obtain ⟨g1, g2, g3, g4⟩ := bl_of hX hW h1
  subst hn
  refine ⟨fun pins s σ H Rr I h => (pi_enum (tpos := tpos) (elts := elts) (kk := kk) g1 g2 (pa_cons he pa_nil (star_cons hs)) (star_cons hs)).run pins s σ H Rr I ?_⟩
  obtain ⟨m, ρ, st, sm, r, p⟩ := h
  rw [evI] at p
  refine ⟨m, ρ, st, sm, r, p.bind.imp fun d m1 st1 H1 e1 s1 p1 v rv => ?_⟩
  rw [hX.K]
  split at p1
  · rename_i n
    unfold wkD at p1
    simp only at p1
    split at p1
    · rename_i xs hx
      have p1 : Pg W E m1 H1 (.ok (Wk.enum ⟨xs, some (n, .lst xs)⟩) st1) _ := p1
      obtain ⟨b, rfl, hb, vs, h1, h2⟩ := loc_at s1 rv hx
      refine ⟨b, vs, rfl, SqL.of h1, p1.now s1 _ fun H2 m2 st2 e2 s2 hst i => ?_⟩
      have hst : decide (st2[n]? = some (.lst xs)) = true := hst
      have hst := of_decide_eq_true hst
      obtain ⟨c, hc, us, g1, g2⟩ := s2.at hst
      have := e2.at hb
      rw [hc] at this; cases this
      exact enum_turn s2 (SqL.of g1) g2 i
    · exact p1.elim
  · rename_i xs
    have p1 : Pg W E m1 H1 (.ok (Wk.enum ⟨xs, none⟩) st1) _ := p1
    rw [Rp] at rv
    obtain ⟨b, vs, rfl, h1, h2⟩ := rv
    exact ⟨b, vs, rfl, h1.l, p1.now s1 _ fun H2 m2 st2 e2 s2 hst i => enum_turn s2 (sqF_up s1 e2 h1).l (h2.up s1 e2) i⟩
  · exact p1.elim
theorem pi_itE {tg l : Expr} {a : IE} (hK : X.K = W.K) (he : PE X l (tE W E (ev C a))) : PI X tg l (tI W E (evI C (.it a))) := by
  refine ⟨fun pins s σ H Rr I h => ?_⟩
  obtain ⟨m, ρ, st, sm, r, p⟩ := h
  rw [evI] at p
  cases hev : ev C a ρ st with
  | stuck => rw [hev] at p; exact p.elim
  | exc e st1 =>
    refine (pi_list (tg := tg) he).run pins s σ H Rr I ⟨m, ρ, st, sm, r, ?_⟩
    rw [hev] at p ⊢
    exact p
  | ok d st1 =>
    rw [hev] at p
    have p : Pg W E m H (wkD d st1) _ := p
    cases d with
    | tup xs =>
      refine (pi_tup (tg := tg) he).run pins s σ H Rr I ⟨m, ρ, st, sm, r, ?_⟩
      rw [hev]
      intro H1 m1 e1 s1 v rv
      obtain ⟨b, vs, rfl, h1, h2⟩ := rv.tup_ref
      refine ⟨b, rfl, ⟨vs, by rw [hK]; exact h1⟩, p.go e1 s1 _ ?_⟩
      rw [hK]
      exact walks_tup s1 h1 h2
    | fl xs =>
      refine (pi_list (tg := tg) he).run pins s σ H Rr I ⟨m, ρ, st, sm, r, ?_⟩
      rw [hev]
      intro H1 m1 e1 s1 v rv
      rw [Rp] at rv
      obtain ⟨b, vs, rfl, h1, h2⟩ := rv
      refine ⟨b, rfl, ⟨vs, by rw [hK]; exact h1.l⟩, p.go e1 s1 _ ?_⟩
      rw [hK]
      exact walks_fl s1 h1 h2
    | loc n =>
      unfold wkD at p
      simp only at p
      split at p
      · rename_i xs hx
        refine (pi_list (tg := tg) he).run pins s σ H Rr I ⟨m, ρ, st, sm, r, ?_⟩
        rw [hev]
        intro H1 m1 e1 s1 v rv
        rw [Rp] at rv
        obtain ⟨b, hb, rfl⟩ := rv
        obtain ⟨b', hb', vs, h1, h2⟩ := s1.at hx
        rw [hb] at hb'; cases hb'
        refine ⟨b, rfl, ⟨vs, SqL.of h1⟩, p.go e1 s1 _ ?_⟩
        rw [hK]
        exact walks_lst hb
      · exact p.elim
    | _ => exact p.elim
theorem Pg.iOf {β : Type} {m : List Addr} {H : Hp} {d : D} {st : Sto} {f : Int → Sto → R β} {q : β → List Addr → Sto → Hp → Prop} (h : Pg W E m H ((iOf st d).bind f) q) : ∃ b, d = .int b ∧ Pg W E m H (f b st) q := by
  cases d with
  | int b => exact ⟨b, rfl, h⟩
  | _ => exact h.elim
theorem pi_rng1E (hX : XOk W Ns scp k E X) (hW : WOk W cc) {tg x : Expr} {a : IE} {nm : Str} {p pos : Pos} (hn : nm = "range") (h1 : blB cc scp nm = true) (hs : isStar x = false) (he : PE X x (tE W E (ev C a))) :
    PI X tg (.Call (.Name nm p) [x] [] pos) (tI W E (evI C (.rng1 a))) := by
  obtain ⟨g1, g2, g3, g4⟩ := bl_of hX hW h1
  subst hn
  refine ⟨fun pins s σ H Rr I h => (pi_range1 (tg := tg) g1 g2 (pa_cons he pa_nil (star_cons hs)) (star_cons hs)).run pins s σ H Rr I ?_⟩
  obtain ⟨m, ρ, st, sm, r, p⟩ := h
  rw [evI] at p
  refine ⟨m, ρ, st, sm, r, p.bind.imp fun d m1 st1 H1 e1 s1 p1 v rv => ?_⟩
  obtain ⟨i, rfl, p2⟩ := p1.iOf
  obtain ⟨c, p2⟩ := p2.ite
  rw [Rp] at rv; subst rv
  exact ⟨i, rfl, c.1, c.2, p2.now s1 _ walks_rng⟩
theorem pi_rng2E (hX : XOk W Ns scp k E X) (hW : WOk W cc) {tg x y : Expr} {a b : IE} {nm : Str} {p pos : Pos} (hn : nm = "range") (h1 : blB cc scp nm = true) (hs : isStar x = false) (hs2 : isStar y = false) (he : PE X x (tE W E (ev C a))) (hf : PE X y (tE W E (ev C b))) :
    PI X tg (.Call (.Name nm p) [x, y] [] pos) (tI W E (evI C (.rng2 a b))) := by
  obtain ⟨g1, g2, g3, g4⟩ := bl_of hX hW h1
  subst hn
  refine ⟨fun pins s σ H Rr I h => (pi_range2 (tg := tg) g1 g2 (pa_cons he (pa_cons hf pa_nil (star_cons hs2)) (star_cons hs)) (by rw [star_cons hs, star_cons hs2]; rfl) (star_cons hs2)).run pins s σ H Rr I ?_⟩
  obtain ⟨m, ρ, st, sm, r, p⟩ := h
  rw [evI] at p
  refine ⟨m, ρ, st, sm, r, p.bind.imp fun d m1 st1 H1 e1 s1 p1 v rv => ?_⟩
  refine ⟨m1, ρ, st1, s1, r.up sm e1, p1.bind.imp fun d2 m2 st2 H2 e2 s2 p2 u ru => ?_⟩
  obtain ⟨i, rfl, p3⟩ := p2.iOf
  obtain ⟨j, rfl, p4⟩ := p3.iOf
  obtain ⟨c, p5⟩ := p4.ite
  rw [Rp] at rv ru; subst rv ru
  exact ⟨i, j, rfl, ⟨c.1.1, c.1.2, c.2.1, c.2.2⟩, p5.now s2 _ walks_rng⟩

/-! ### comprehensions -/
theorem bind_ok {α β : Type} {r : R α} {f : α → Sto → R β} {b : β} {st : Sto} (h : r.bind f = .ok b st) : ∃ a st', r = .ok a st' ∧ f a st' = .ok b st := by
  cases r with
  | ok a st' => exact ⟨a, st', rfl, h⟩
  | exc e st' => cases h
  | stuck => cases h
def tC' (W : Wd) (E : XK) (f : Env → Sto → R Bool) : TT := tT W E f
theorem wipe_wipe (σ : L2.St) : ∀ vs : List Nat, L2.wipe (L2.wipe σ vs) vs = L2.wipe σ vs := by
  have set_none : ∀ (vs : List Nat) (τ : L2.St) (i : Nat), L2.wipe (τ.set i none) vs = (L2.wipe τ vs).set i none := by
    intro vs
    induction vs with
    | nil => intro τ i; rfl
    | cons z vz ih2 =>
      intro τ i
      unfold L2.wipe
      rw [ih2]
      by_cases h : i = z
      · subst h; rfl
      · rw [List.set_comm _ _ h]
  intro vs
  induction vs with
  | nil => rfl
  | cons v vs ih =>
    show (L2.wipe ((L2.wipe σ vs).set v none) vs).set v none = (L2.wipe σ vs).set v none
    rw [set_none, ih, List.set_set]
abbrev E0 : XK := fun _ _ _ => False
theorem comp_E {it : II} {t : IT} {own : List Nat} {c : IO} {e : IE} (hown : ∀ i ∈ t.slots, i ∈ own) {σ : L2.St} {H : Hp} {Q : VK} (h : tE W E (ev C (.comp e t own it c)) σ H Q) :
    tLc (tI W E (evI C it)) (gIT W.K t) (tT W E0 (evC C c)) (tE W E0 (ev C e)) own σ H Q := by
  obtain ⟨m, ρ, st, s, r, p⟩ := h
  have p : Pg W E m H ((evI C it ρ st).bind fun w st => ((compL w (turnC C t own c e ρ) w.xs st).noex).bind fun ys st => if ys.length ≤ LIM then .ok (.loc st.length) (st ++ [.lst ys]) else .stuck) (kD W Q) := by
    rw [ev] at p; exact p
  refine ⟨m, ρ, st, s, r, p.bind.imp fun w m1 st1 H1 e1 s1 p1 J hJ D0 hD0 => ?_⟩
  -- the whole comes to YS
  have r1 := r.up s e1
  obtain ⟨YS, stE, hall, p2⟩ : ∃ YS stE, compL w (turnC C t own c e ρ) w.xs st1 = .ok YS stE ∧ Pg W E m1 H1 (if YS.length ≤ LIM then .ok (.loc stE.length) (stE ++ [.lst YS]) else .stuck) (kD W Q) := by
    cases q : compL w (turnC C t own c e ρ) w.xs st1 with
    | ok YS stE => rw [q] at p1; exact ⟨YS, stE, rfl, p1⟩
    | exc x st2 => rw [q] at p1; exact p1.elim
    | stuck => rw [q] at p1; exact p1.elim
  obtain ⟨hlim, p2⟩ := p2.ite
  have stays_of : ∀ {xs : List D} {st2 : Sto} {zs : List D}, compL w (turnC C t own c e ρ) xs st2 = .ok zs stE → w.stays st2 = true := fun {xs st2 zs} h => by
    cases xs with
    | nil => unfold compL at h; split at h; assumption; cases h
    | cons x xs => unfold compL at h; split at h; assumption; cases h
  refine ⟨fun i mm H2 => mm = w.xs.length - i ∧ i ≤ w.xs.length ∧ ∃ m2 st2 acc ys zs, Sim W H2 m2 st2 ∧ Ext m1 m2 H1 H2 ∧ H2 D0 = some (.lst acc) ∧ D0 ∉ m2 ∧ Rps W.K H2 m2 ys acc ∧
    compL w (turnC C t own c e ρ) (w.xs.drop i) st2 = .ok zs stE ∧ ys ++ zs = YS ∧ EnvR W H2 m2 ρ σ, ⟨w.xs.length, by simp, Nat.zero_le _, ?_⟩, ?_⟩
  · obtain ⟨s2, e2⟩ := s1.laid hD0 (.lst [])
    refine ⟨m1, st1, [], [], YS, s2, e2, upd_same, fun z => ?_, by rw [Rps], by simpa using hall, rfl, r1.up s1 e2⟩
    obtain ⟨o, ho, _⟩ := s1.mu z
    rw [hD0] at ho; cases ho
  · rintro i mm H2 ⟨rfl, hi, m2, st2, acc, ys, zs, s2, e2, hD, hn, ra, hc, hz, r2⟩
    have hst := stays_of hc
    obtain ⟨w1, w2⟩ := hJ H2 m2 st2 e2 s2 hst i
    by_cases hlt : i < w.xs.length
    · right
      rw [List.drop_eq_getElem_cons hlt] at hc
      unfold compL at hc
      rw [if_pos hst] at hc
      obtain ⟨o, st3, h3, hc⟩ := bind_ok hc
      obtain ⟨zs', st4, h4, hc⟩ := bind_ok hc
      injection hc with hz1 hz2
      subst hz2
      obtain ⟨g1, g2⟩ := w1 _ (List.getElem?_eq_getElem hlt)
      refine ⟨g1, fun H' => ∃ m2 st2 acc ys zs, Sim W H' m2 st2 ∧ Ext m1 m2 H1 H' ∧ H' D0 = some (.lst acc) ∧ D0 ∉ m2 ∧ Rps W.K H' m2 ys acc ∧
        compL w (turnC C t own c e ρ) (w.xs.drop (i + 1)) st2 = .ok zs st4 ∧ ys ++ zs = YS ∧ EnvR W H' m2 ρ σ, fun H' q => ⟨w.xs.length - (i + 1), by omega, rfl, hlt, q⟩, fun x H' hy => ?_⟩
      obtain ⟨ey, sy, rx⟩ := g2 x H' hy
      obtain ⟨hD', hn'⟩ := ey.keep D0 _ hD hn
      replace ra := ra.up s2 ey
      replace r2 := r2.up s2 ey
      replace e2 := e2.trans ey
      replace s2 := sy
      replace hD := hD'
      replace hn := hn'
      unfold turnC at h3
      split at h3
      · rename_i ρ' hρ
        refine gIT_ok rx (r2.wipe own) hρ fun σ' r3 hw => ⟨by rw [hw own hown, wipe_wipe], m2, ρ', st2, s2, r3, ?_⟩
        obtain ⟨b, st5, h5, h3⟩ := bind_ok h3
        rw [h5]
        intro H5 m5 e5 s5
        obtain ⟨k1, k2⟩ := e5.keep D0 _ hD hn
        cases b with
        | true =>
          refine iteT ⟨m5, ρ', st5, s5, r3.up s2 e5, ?_⟩
          rw [if_pos rfl] at h3
          obtain ⟨y, st6, h6, h3⟩ := bind_ok h3
          rw [h6]
          intro H6 m6 e6 s6 v rv
          obtain ⟨l1, l2⟩ := e6.keep D0 _ k1 k2
          injection h3 with h31 h32
          subst h31 h32
          have hlen : ys.length + 1 + zs'.length = YS.length := by rw [← hz, ← hz1]; simp; omega
          have e26 := (e2.trans e5).trans e6
          refine ⟨acc, l1, by rw [ra.len]; exact lim_lt (by omega), m6, st6, acc ++ [v], ys ++ [y], zs', s6.off l1 l2, e26.off hD0, upd_same, l2, ?_, h4, ?_, ?_⟩
          · exact (((ra.up s2 (e5.trans e6)).append (.one rv))).off l1
          · rw [← hz, ← hz1]; simp
          · have := r2.up s2 (e5.trans e6)
            exact ⟨this.1, fun j d hj => by
              obtain ⟨u, hu, ru⟩ := this.2 j d hj
              exact ⟨u, hu, ru.off l1⟩⟩
        | false =>
          refine iteF ?_
          rw [if_neg Bool.false_ne_true] at h3
          injection h3 with h31 h32
          subst h31 h32
          exact ⟨m5, st5, acc, ys, zs', s5, e2.trans e5, k1, k2, ra.up s2 e5, h4, by rw [← hz, ← hz1], r2.up s2 e5⟩
      · cases h3
    · left
      have hi' : i = w.xs.length := by omega
      subst hi'
      refine ⟨w2 (Nat.le_refl _), ?_⟩
      rw [List.drop_length] at hc
      unfold compL at hc
      rw [if_pos hst] at hc
      injection hc with hz1 hz2
      subst hz1 hz2
      rw [List.append_nil] at hz
      subst hz
      refine p2.go (e2.adopt hD0) (s2.adopt hD hn ra) _ ?_
      rw [Rp]
      refine ⟨D0, ?_, rfl⟩
      rw [List.getElem?_append_right (by rw [s2.len]; exact Nat.le_refl _), s2.len]
      simp
end
end Z
namespace Z
open PySem L2
section
variable {W : Wd} {cc : CC} {Ns : List Str} {k : Nat}
theorem bex {a b : Bool} (h : (a && b) = true) : a = true ∧ b = true := by rw [Bool.and_eq_true] at h; exact h
theorem bnot {a : Bool} (h : (!a) = true) : a = false := by simpa using h
theorem chkEs_stars : ∀ {es : IEs} {scp : Scope} {xs : List Expr}, chkEs cc Ns scp es xs = true → noStars xs = true
  | .nil, scp, [], h => rfl
  | .nil, scp, _ :: _, h => by unfold chkEs at h; cases h
  | .cons a r, scp, [], h => by unfold chkEs at h; cases h
  | .cons a r, scp, x :: xs, h => by
    unfold chkEs at h
    obtain ⟨h1, h2⟩ := bex h
    obtain ⟨h3, h4⟩ := bex h1
    rw [noStars, h3, chkEs_stars h2]; rfl
theorem chkEs_nil {es : IEs} {scp : Scope} {xs : List Expr} (h : chkEs cc Ns scp es xs = true) : xs = [] → es = .nil := fun e => by
  subst e
  cases es with
  | nil => rfl
  | cons a r => unfold chkEs at h; cases h
theorem XOk.blk {scp scope : Scope} {E : XK} {X : Cx} (h : XOk W Ns scp k E X) (s : Shared) (H : Hp) (C : Addr) (cl : List (Str × Addr)) (fp : List Addr) : XOk W Ns (relS scope scp) k E0 (X.blk s H scope (compEnvC scope cl C X.env) fp) :=
  ⟨h.prog, h.w, h.K, h.mg, h.base, h.N, h.nd, by rw [← h.sc]; rfl, h.calm, h.room, passL⟩
theorem XOk.tblk {scp scope : Scope} {E : XK} {X : Cx} (h : XOk W Ns scp k E X) (s : Shared) (H : Hp) (C : Addr) (cl : List (Str × Addr)) (fp : List Addr) : TOk Ns (relS scope scp) (fun x => scope.names.lookup x == some .cell) (X.blk s H scope (compEnvC scope cl C X.env) fp) :=
  ⟨h.N, h.nd, by rw [← h.sc]; rfl, rfl, h.calm⟩
def isBool : Expr → Bool
  | .BoolOp .. => true
  | _ => false
structure Tri (X : Cx) (e : Expr) (t : TE) (tt : TT) : Prop where
  pe : PE X e t
  pt : PT X e tt
  pw : isBool e = true → PW X e tt
theorem PT.of {X : Cx} {e : Expr} {E : XK} {f : Env → Sto → R D} (h : PE X e (tE W E f)) (he : plainT e = true) : PT X e (tT W E fun ρ st => (f ρ st).bind fun x st => bOf st x) :=
  PT.weak (pt_val h (isTrue_of he)) fun σ H Q w => tE_bl w
theorem Tri.plain {X : Cx} {e : Expr} {E : XK} {f : Env → Sto → R D} (h : PE X e (tE W E f)) (he : plainT e = true) : Tri X e (tE W E f) (tT W E fun ρ st => (f ρ st).bind fun x st => bOf st x) :=
  ⟨h, PT.of h he, fun z => by cases e <;> first | (cases he; done) | (cases z; done)⟩
theorem pt_ifExp {X : Cx} {c a b : Expr} {tc ta tb : TT} {pos : Pos} (hc : PT X c tc) (ha : PT X a ta) (hb : PT X b tb) : PT X (.IfExp c a b pos) (fun σ H Q => tc σ H fun k H1 => if k = true then ta σ H1 Q else tb σ H1 Q) := by
  refine ⟨fun pins s σ H Q I h => ?_⟩
  show wpAny _ _ (do if ← isTrue c X.env (eval c X.env) then isTrue a X.env (eval a X.env) else isTrue b X.env (eval b X.env)) _ _ s
  refine PySem.wpAny_bind (thn (hc.run pins s σ H _ I h) fun k s1 ⟨H1, I1, q⟩ => ?_)
  cases k with
  | true => exact ha.run pins s1 σ H1 Q I1 q
  | false => exact hb.run pins s1 σ H1 Q I1 q
theorem two_E {E : XK} {f g h' : Env → Sto → R D} {hh : D → D → Sto → R D} (e : ∀ ρ st, h' ρ st = (f ρ st).bind fun x st => (g ρ st).bind fun y st => hh x y st) {σ : L2.St} {H : Hp} {Q : VK} (w : tE W E h' σ H Q) : tE W E (fun ρ st => (f ρ st).bind fun x st => (g ρ st).bind fun y st => hh x y st) σ H Q := by
  obtain ⟨m, ρ, st, s, r, p⟩ := w
  rw [e] at p
  exact ⟨m, ρ, st, s, r, p⟩
theorem one_E {E : XK} {f h' : Env → Sto → R D} {hh : D → Sto → R D} (e : ∀ ρ st, h' ρ st = (f ρ st).bind hh) {σ : L2.St} {H : Hp} {Q : VK} (w : tE W E h' σ H Q) : tE W E (fun ρ st => (f ρ st).bind hh) σ H Q := by
  obtain ⟨m, ρ, st, s, r, p⟩ := w
  rw [e] at p
  exact ⟨m, ρ, st, s, r, p⟩
theorem units100 {scp : Scope} {E : XK} {X : Cx} (h : XOk W Ns scp k E X) : X.A.units + 100 < cLine := by have := h.room.un; omega
/-- a new thing at p -/
theorem new_cell {E : XK} {m : List Addr} {H : Hp} {st : Sto} {Q : VK} (s : Sim W H m st) {p : Addr} (hp : H p = none) {o : HO} {c : Cell} (hc : CellOk W (upd H p o) (m ++ [p]) p c) (h : Pg W E m H (.ok (.loc st.length) (st ++ [c])) (kD W Q)) : Q (.ref p) (upd H p o) := by
  obtain ⟨s', e⟩ := s.push hp hc
  refine h.go e s' (.ref p) ?_
  rw [Rp]
  refine ⟨p, ?_, rfl⟩
  rw [List.getElem?_append_right (by rw [s.len]; exact Nat.le_refl _), s.len]
  simp
theorem cch_E {E : XK} {C : Cl} {o o' : COp} {a b c : IE} {σ : L2.St} {H : Hp} {Q : VK} (h : tE W E (ev C (.cch o o' a b c)) σ H Q) : tChain (rCmp W o) (rCmp W o') (tE W E (ev C a)) (tE W E (ev C b)) (tE W E (ev C c)) σ H Q := by
  obtain ⟨m, ρ, st, s, r, p⟩ := h
  rw [ev] at p
  refine ⟨m, ρ, st, s, r, p.bind.imp fun x m1 st1 H1 e1 s1 p1 v rv => ?_⟩
  refine ⟨m1, ρ, st1, s1, r.up s e1, p1.bind.imp fun y m2 st2 H2 e2 s2 p2 u ru => ?_⟩
  have r2 := (r.up s e1).up s1 e2
  refine cmp_ok (E := E) s2 (rv.up s1 e2) ru (p2.bind.imp fun z m3 st3 H3 e3 s3 p3 w rw' => ?_)
  cases z with
  | bl k =>
    rw [Rp] at rw'
    subst rw'
    have p3 : Pg W E m3 H3 (if k = true then (ev C c ρ st3).bind fun w st => cmpD o' y w st else .ok (.bl false) st3) (kD W Q) := p3
    refine ⟨k, rfl, ?_⟩
    cases k with
    | true =>
      rw [if_pos rfl] at p3 ⊢
      exact ⟨m3, ρ, st3, s3, r2.up s2 e3, p3.bind.imp fun w m4 st4 H4 e4 s4 p4 t rt => cmp_ok s4 ((ru.up s2 e3).up s3 e4) rt p4⟩
    | false =>
      rw [if_neg Bool.false_ne_true] at p3 ⊢
      exact p3.now s3 _ (by rw [Rp])
  | _ => exact p3.elim
theorem rg_rel {K : PySem.W.Frag} {H : Hp} {m : List Addr} (a b : Int) : Rps K H m (rngW a (b - a).toNat).xs (rgV a b) := by
  unfold rngW rgV
  simp only
  generalize (List.range (b - a).toNat) = l
  induction l with
  | nil => rw [List.map_nil, List.map_nil, Rps]
  | cons x l ih => rw [List.map_cons, List.map_cons, Rps]; exact ⟨_, _, rfl, by rw [Rp], ih⟩
theorem units64 {scp : Scope} {E : XK} {X : Cx} (h : XOk W Ns scp k E X) : X.A.units + 64 < cLine := h.room.units
mutual
/-- THE RULE for expressions -/
theorem snd (hW : WOk W cc) (L : Lv W k) : ∀ (a : IE) {scp : Scope} {E : XK} {X : Cx} {e : Expr}, chkE cc Ns scp a e = true → XOk W Ns scp k E X → Tri X e (tE W E (ev (W.cl k) a)) (tT W E (evT (W.cl k) a))
  | .var i, scp, E, X, e, h, hX => by
    unfold chkE at h
    split at h
    · obtain ⟨h1, h4⟩ := bex h
      obtain ⟨h1, h3⟩ := bex h1
      obtain ⟨h1, h2⟩ := bex h1
      refine .plain (PE.weak (pe_var (by rw [hX.N]; exact of_decide_eq_true h1) (vis_of h2 hX.sc) (of_decide_eq_true h3) (of_decide_eq_true h4)) fun σ H Q w => tE_var w) rfl
    · cases h
  | .cst d, scp, E, X, e, h, hX => by
    unfold chkE at h
    have cst : ∀ {v : V} {t : TE}, PE X e t → (∀ σ H Q, Q v H → t σ H Q) → (∀ H m, Rp W.K H m d v) → PE X e (tE W E (ev (W.cl k) (.cst d))) := fun {v t} p q r =>
      PE.weak p fun σ H Q w => q σ H Q (tE_cst (d := d) (by obtain ⟨m, ρ, st, s, rr, w⟩ := w; rw [ev] at w; exact ⟨m, ρ, st, s, rr, w⟩) (r H))
    split at h
    · unfold cstOk at h
      split at h
      · refine .plain (cst pe_non (fun _ _ _ q => q) fun _ _ => by rw [Rp]) rfl
      · have := eq_of_beq h; subst this
        refine .plain (cst pe_bl (fun _ _ _ q => q) fun _ _ => by rw [Rp]) rfl
      · have := of_decide_eq_true h; subst this
        refine .plain (cst pe_int (fun _ _ _ q => q) fun _ _ => by rw [Rp]) rfl
      · have := of_decide_eq_true h; subst this
        refine .plain (cst pe_str (fun _ _ _ q => q) fun _ _ => by rw [Rp]) rfl
      · cases h
    · have := of_decide_eq_true h; subst this
      refine .plain (cst (pe_un un_neg pe_int) (fun _ _ _ q => ⟨_, rfl, q⟩) fun _ _ => by rw [Rp]) rfl
    · cases h
  | .gl d, scp, E, X, e, h, hX => by
    unfold chkE at h
    split at h
    · obtain ⟨h1, h2⟩ := bex h
      obtain ⟨g1, g2⟩ := gl_of h1 hX.sc
      obtain ⟨u, v, k1, k2, k3⟩ := hW.gl _ d (of_decide_eq_true h2)
      refine .plain (PE.weak (pe_glob g1 (by rw [hX.mg]; exact k1) k2 g2) fun σ H Q w => tE_cst (d := d) (v := v) (by obtain ⟨m, ρ, st, s, rr, w⟩ := w; rw [ev] at w; exact ⟨m, ρ, st, s, rr, w⟩) (k3 H)) rfl
    · cases h
  | .tup es, scp, E, X, e, h, hX => by
    unfold chkE at h
    split at h
    · refine .plain (PE.weak (pe_tup (sndEs hW L es h hX)) fun σ H Q w => tup_E w) rfl
    · cases h
  | .lst es, scp, E, X, e, h, hX => by
    unfold chkE at h
    split at h
    · refine .plain (PE.weak (pe_lst (sndEs hW L es h hX)) fun σ H Q w => lst_E w) rfl
    · cases h
  | .bin o a b, scp, E, X, e, h, hX => by
    unfold chkE at h
    split at h
    · obtain ⟨h1, h3⟩ := bex h
      obtain ⟨h1, h2⟩ := bex h1
      refine .plain (PE.weak (pe_op (op_rBin h1 hX.K) (snd hW L a h2 hX).pe (snd hW L b h3 hX).pe) fun σ H Q w => (two_E (fun ρ st => by rw [ev]) w).two fun m st H d v e u s r1 r2 p => bin_ok s r1 r2 p) rfl
    · cases h
  | .cmp o a b, scp, E, X, e, h, hX => by
    unfold chkE at h
    split at h
    · obtain ⟨h1, h4⟩ := bex h
      obtain ⟨h1, h3⟩ := bex h1
      obtain ⟨h1, h2⟩ := bex h1
      have two : ∀ σ H Q, tE W E (ev (W.cl k) (.cmp o a b)) σ H Q → tOp (rCmp W o) (tE W E (ev (W.cl k) a)) (tE W E (ev (W.cl k) b)) σ H Q := fun σ H Q w => (two_E (fun ρ st => by rw [ev]) w).two fun m st H d v e u s r1 r2 p => cmp_ok s r1 r2 p
      exact ⟨PE.weak (pe_cmpR (op_rCmp h1 hX.prog hX.w hX.K (units100 hX)) (snd hW L a h3 hX).pe (snd hW L b h4 hX).pe (bnot h2)) two, PT.weak (pt_cmpR (op_rCmp h1 hX.prog hX.w hX.K (units100 hX)) (snd hW L a h3 hX).pe (snd hW L b h4 hX).pe (bnot h2)) fun σ H Q w => two σ H _ (tE_bl w), fun z => by cases z⟩
    · cases h
  | .and a b, scp, E, X, e, h, hX => by
    unfold chkE at h
    split at h
    · obtain ⟨h1, h2⟩ := bex h
      have q := PW.weak (pw_and (pos := ‹Pos›) (snd hW L a h1 hX).pt (pw_and1 (snd hW L b h2 hX).pt)) fun σ H Q w => and_T (C := W.cl k) (a := a) (b := b) w
      exact ⟨PE.weak (pe_and (snd hW L a h1 hX).pe (pe_one (snd hW L b h2 hX).pe)) fun σ H Q w => and_V w, q.pt, fun _ => q⟩
    · obtain ⟨h1, h2⟩ := bex h
      have q := PW.weak (pw_and (pos := ‹Pos›) (snd hW L a h1 hX).pt ((snd hW L b h2 hX).pw rfl)) fun σ H Q w => and_T (C := W.cl k) (a := a) (b := b) w
      exact ⟨PE.weak (pe_and (snd hW L a h1 hX).pe (snd hW L b h2 hX).pe) fun σ H Q w => and_V w, q.pt, fun _ => q⟩
    · cases h
  | .or a b, scp, E, X, e, h, hX => by
    unfold chkE at h
    split at h
    · obtain ⟨h1, h2⟩ := bex h
      have q := PW.weak (pw_or (pos := ‹Pos›) (snd hW L a h1 hX).pt (pw_or1 (snd hW L b h2 hX).pt)) fun σ H Q w => or_T (C := W.cl k) (a := a) (b := b) w
      exact ⟨PE.weak (pe_or (snd hW L a h1 hX).pe (pe_one (snd hW L b h2 hX).pe)) fun σ H Q w => or_V w, q.pt, fun _ => q⟩
    · obtain ⟨h1, h2⟩ := bex h
      have q := PW.weak (pw_or (pos := ‹Pos›) (snd hW L a h1 hX).pt ((snd hW L b h2 hX).pw rfl)) fun σ H Q w => or_T (C := W.cl k) (a := a) (b := b) w
      exact ⟨PE.weak (pe_or (snd hW L a h1 hX).pe (snd hW L b h2 hX).pe) fun σ H Q w => or_V w, q.pt, fun _ => q⟩
    · cases h
  | .not a, scp, E, X, e, h, hX => by
    unfold chkE at h
    split at h
    · exact ⟨PE.weak (pe_not (snd hW L a h hX).pe) fun σ H Q w => not_V w, PT.weak (pt_not (snd hW L a h hX).pt) fun σ H Q w => not_T w, fun z => by cases z⟩
    · cases h
  | .ite c a b, scp, E, X, e, h, hX => by
    unfold chkE at h
    split at h
    · obtain ⟨h1, h3⟩ := bex h
      obtain ⟨h1, h2⟩ := bex h1
      exact ⟨PE.weak (pe_ifExp (snd hW L c h1 hX).pt (snd hW L a h2 hX).pe (snd hW L b h3 hX).pe) fun σ H Q w => ite_V w, PT.weak (pt_ifExp (snd hW L c h1 hX).pt (snd hW L a h2 hX).pt (snd hW L b h3 hX).pt) fun σ H Q w => ite_T w, fun z => by cases z⟩
    · cases h
  | .ix a i, scp, E, X, e, h, hX => by
    unfold chkE at h
    split at h
    · obtain ⟨h1, h3⟩ := bex h
      obtain ⟨h1, h2⟩ := bex h1
      have q := ix_A hX.prog hX.w hX.K (units100 hX)
      refine .plain (PE.weak (pe_ix q (snd hW L a h2 hX).pe (snd hW L i h3 hX).pe (plainIx_of (bnot h1))) fun σ H Q w => (two_E (fun ρ st => by rw [ev]) w).two fun m st H d v e u s r1 r2 p => ix_ok s r1 r2 p) rfl
    · cases h
  | .sl a lo hi, scp, E, X, e, h, hX => by
    unfold chkE at h
    split at h
    · obtain ⟨h1, h3⟩ := bex h
      obtain ⟨h1, h2⟩ := bex h1
      refine .plain (PE.weak (pe_slice (op_rSl hX.K) (snd hW L a h1 hX).pe (sndO hW L lo h2 hX) (sndO hW L hi h3 hX)) fun σ H Q w => ?_) rfl
      obtain ⟨m, ρ, st, s, r, p⟩ := w
      rw [ev] at p
      refine ⟨m, ρ, st, s, r, p.bind.imp fun d m1 st1 H1 e1 s1 p1 v rv => ?_⟩
      refine ⟨m1, ρ, st1, s1, r.up s e1, p1.bind.imp fun l m2 st2 H2 e2 s2 p2 => ?_⟩
      exact ⟨m2, ρ, st2, s2, (r.up s e1).up s1 e2, p2.bind.imp fun u m3 st3 H3 e3 s3 p3 => sl_ok s3 ((rv.up s1 e2).up s2 e3) p3⟩
    · cases h
  | .rev a, scp, E, X, e, h, hX => by
    unfold chkE at h
    split at h
    · refine .plain (PE.weak (pe_revA (snd hW L a h hX).pe) fun σ H Q w => (one_E (fun ρ st => by rw [ev]) w).one fun m st H d v s r p => ?_) rfl
      rw [hX.K]
      exact rev_ok s r p
    · cases h
  | .fld a f, scp, E, X, e, h, hX => by
    unfold chkE at h
    split at h
    · obtain ⟨h1, h4⟩ := bex h
      obtain ⟨h1, h3⟩ := bex h1
      obtain ⟨h1, h2⟩ := bex h1
      have := of_decide_eq_true h1; subst this
      refine .plain (PE.weak (pe_fld (snd hW L a h4 hX).pe (base_of h3)) fun σ H Q w => by rw [hX.K]; exact fld_E hW (of_decide_eq_true h2) w) rfl
    · cases h
  | .isi a kd, scp, E, X, e, h, hX => by
    unfold chkE at h
    split at h
    · obtain ⟨h1, h6⟩ := bex h
      obtain ⟨h1, h5⟩ := bex h1
      obtain ⟨h1, h4⟩ := bex h1
      obtain ⟨h1, h3⟩ := bex h1
      obtain ⟨h1, h2⟩ := bex h1
      refine .plain (pe_isiE hX hW (of_decide_eq_true h1) (of_decide_eq_true h2) h3 h4 (bnot h5) (snd hW L a h6 hX).pe) rfl
    · cases h
  | .bi b a, scp, E, X, e, h, hX => by
    unfold chkE at h
    split at h
    · obtain ⟨h1, h4⟩ := bex h
      obtain ⟨h1, h3⟩ := bex h1
      obtain ⟨h1, h2⟩ := bex h1
      refine .plain (pe_biE hX hW (of_decide_eq_true h1) h2 (bnot h3) (snd hW L a h4 hX).pe) rfl
    · cases h
  | .call f es, scp, E, X, e, h, hX => by
    unfold chkE at h
    split at h
    · obtain ⟨h1, h3⟩ := bex h
      obtain ⟨h1, h2⟩ := bex h1
      refine .plain (pe_callE hX hW L (of_decide_eq_true h1) h2 (chkEs_stars h3) (sndEs hW L es h3 hX) (chkEs_nil h3)) rfl
    · cases h
  | .mk c es, scp, E, X, e, h, hX => by
    unfold chkE at h
    split at h
    · obtain ⟨h1, h3⟩ := bex h
      obtain ⟨h1, h2⟩ := bex h1
      refine .plain (pe_mkE hX hW L (of_decide_eq_true h1) h2 (chkEs_stars h3) (sndEs hW L es h3 hX) (chkEs_nil h3)) rfl
    · cases h
  | .me0 me a, scp, E, X, e, h, hX => by
    unfold chkE at h
    split at h
    · obtain ⟨h1, h5⟩ := bex h
      obtain ⟨h1, h4⟩ := bex h1
      obtain ⟨h1, h3⟩ := bex h1
      obtain ⟨h1, h2⟩ := bex h1
      refine .plain (pe_me0E hX (of_decide_eq_true h1) h3 h4 (of_decide_eq_true h2) (snd hW L a h5 hX).pe) rfl
    · cases h
  | .me1 me a b, scp, E, X, e, h, hX => by
    unfold chkE at h
    split at h
    · obtain ⟨h1, h7⟩ := bex h
      obtain ⟨h1, h6⟩ := bex h1
      obtain ⟨h1, h5⟩ := bex h1
      obtain ⟨h1, h4⟩ := bex h1
      obtain ⟨h1, h3⟩ := bex h1
      obtain ⟨h1, h2⟩ := bex h1
      refine .plain (pe_me1E hX (of_decide_eq_true h1) h3 h5 (of_decide_eq_true h2) (bnot h4) (snd hW L a h6 hX).pe (snd hW L b h7 hX).pe) rfl
    · cases h
  | .om x mi a es, scp, E, X, e, h, hX => by
    unfold chkE at h
    split at h
    · obtain ⟨h1, h7⟩ := bex h
      obtain ⟨h1, h6⟩ := bex h1
      obtain ⟨h1, h5⟩ := bex h1
      obtain ⟨h1, h4⟩ := bex h1
      obtain ⟨h1, h3⟩ := bex h1
      obtain ⟨h1, h2⟩ := bex h1
      have := of_decide_eq_true h1; subst this
      refine .plain (pe_omE hX hW L (of_decide_eq_true h2) h3 h4 (of_decide_eq_true h5) (snd hW L a h6 hX).pe (chkEs_stars h7) (sndEs hW L es h7 hX) (chkEs_nil h7)) rfl
    · cases h
  | .dnew t, scp, E, X, e, h, hX => by
    unfold chkE at h
    split at h
    · cases t with
      | true =>
        refine .plain (PE.weak pe_ndNew fun σ H Q w p hp => ?_) rfl
        obtain ⟨m, ρ, st, s, r, w⟩ := w
        rw [ev, if_pos rfl] at w
        rw [hX.prog, hX.w]
        exact new_cell s hp (c := .dct []) ⟨[], upd_same, rfl⟩ w
      | false =>
        refine .plain (PE.weak pe_dnewK fun σ H Q w p hp => ?_) rfl
        obtain ⟨m, ρ, st, s, r, w⟩ := w
        rw [ev, if_neg Bool.false_ne_true] at w
        exact new_cell s hp (c := .dck []) ⟨[], upd_same, rfl⟩ w
    · cases h
  | .cch o o' a b c, scp, E, X, e, h, hX => by
    unfold chkE at h
    split at h
    · obtain ⟨h1, h6⟩ := bex h
      obtain ⟨h1, h5⟩ := bex h1
      obtain ⟨h1, h4⟩ := bex h1
      obtain ⟨h1, h3⟩ := bex h1
      obtain ⟨h1, h2⟩ := bex h1
      have q1 := op_rCmp h1 hX.prog hX.w hX.K (units100 hX)
      have q2 := op_rCmp h2 hX.prog hX.w hX.K (units100 hX)
      exact ⟨PE.weak (pe_chain q1 q2 (snd hW L a h4 hX).pe (snd hW L b h5 hX).pe (snd hW L c h6 hX).pe (bnot h3)) fun σ H Q w => cch_E w,
        PT.weak (pt_chain q1 q2 (snd hW L a h4 hX).pe (snd hW L b h5 hX).pe (snd hW L c h6 hX).pe (bnot h3)) fun σ H Q w => cch_E (tE_bl w), fun z => by cases z⟩
    · cases h
  | .lrng1 a, scp, E, X, e, h, hX => by
    unfold chkE at h
    split at h
    · obtain ⟨h1, h6⟩ := bex h
      obtain ⟨h1, h5⟩ := bex h1
      obtain ⟨h1, h4⟩ := bex h1
      obtain ⟨h1, h3⟩ := bex h1
      obtain ⟨h1, h2⟩ := bex h1
      obtain ⟨g1, g2, _, _⟩ := bl_of hX hW h2
      obtain ⟨k1, k2, _, _⟩ := bl_of hX hW h4
      have := of_decide_eq_true h1; subst this
      have := of_decide_eq_true h3; subst this
      refine .plain (PE.weak (pe_listRg hX.calm g1 g2 (prg_1 k1 k2 (snd hW L a h6 hX).pe (star_cons (bnot h5)))) fun σ H Q w => ?_) rfl
      obtain ⟨m, ρ, st, s, r, p⟩ := w
      rw [ev] at p
      refine ⟨m, ρ, st, s, r, p.bind.imp fun d m1 st1 H1 e1 s1 p1 v rv => ?_⟩
      obtain ⟨i, rfl, p2⟩ := p1.iOf
      obtain ⟨c, p2⟩ := p2.ite
      rw [Rp] at rv; subst rv
      refine ⟨i, rfl, .of_le (by decide) (by omega) (by decide) c.1, fun q hq => new_lst s1 hq ?_ p2⟩
      have := rg_rel (K := W.K) (H := H1) (m := m1) 0 i
      rw [Int.sub_zero] at this
      exact this
    · cases h
  | .lrng2 a b, scp, E, X, e, h, hX => by
    unfold chkE at h
    split at h
    · obtain ⟨h1, h8⟩ := bex h
      obtain ⟨h1, h7⟩ := bex h1
      obtain ⟨h1, h6⟩ := bex h1
      obtain ⟨h1, h5⟩ := bex h1
      obtain ⟨h1, h4⟩ := bex h1
      obtain ⟨h1, h3⟩ := bex h1
      obtain ⟨h1, h2⟩ := bex h1
      obtain ⟨g1, g2, _, _⟩ := bl_of hX hW h2
      obtain ⟨k1, k2, _, _⟩ := bl_of hX hW h4
      have := of_decide_eq_true h1; subst this
      have := of_decide_eq_true h3; subst this
      refine .plain (PE.weak (pe_listRg hX.calm g1 g2 (prg_2 k1 k2 (snd hW L a h7 hX).pe (snd hW L b h8 hX).pe (by rw [star_cons (bnot h5), star_cons (bnot h6)]) (star_cons (bnot h6)) (by rw [star_cons (bnot h6)]; rfl))) fun σ H Q w => ?_) rfl
      obtain ⟨m, ρ, st, s, r, p⟩ := w
      rw [ev] at p
      refine ⟨m, ρ, st, s, r, p.bind.imp fun d m1 st1 H1 e1 s1 p1 v rv => ?_⟩
      refine ⟨m1, ρ, st1, s1, r.up s e1, p1.bind.imp fun d2 m2 st2 H2 e2 s2 p2 u ru => ?_⟩
      obtain ⟨i, rfl, p3⟩ := p2.iOf
      obtain ⟨j, rfl, p4⟩ := p3.iOf
      obtain ⟨c, p5⟩ := p4.ite
      rw [Rp] at rv ru; subst rv ru
      exact ⟨i, j, rfl, rfl, .of_le c.1 (by omega) (by omega) c.2.2.1, fun q hq => new_lst s2 hq (rg_rel i j) p5⟩
    · cases h
  | .comp a t own it c, scp, E, X, e, h, hX => by
    unfold chkE at h
    split at h
    · rename_i _ elt tg iter ifs kk scope pos
      obtain ⟨h1, h8⟩ := bex h
      obtain ⟨h1, h7⟩ := bex h1
      obtain ⟨h1, h6⟩ := bex h1
      obtain ⟨h1, h5⟩ := bex h1
      obtain ⟨h1, htg⟩ := bex h1
      obtain ⟨h1, h4⟩ := bex h1
      obtain ⟨h1, h3⟩ := bex h1
      obtain ⟨h1, h2⟩ := bex h1
      have := of_decide_eq_true h1; subst this
      have hown : ∀ i ∈ t.slots, i ∈ own := fun i hi => of_decide_eq_true (List.all_eq_true.mp h3 i hi)
      have hblk := blkOk_by h2
      have e2 : (own.map fun i => (Ns.getD i "", i)).map (·.2) = own := by rw [List.map_map]; exact (List.map_congr_left fun _ _ => rfl).trans (List.map_id _)
      have q := pe_lc (X := X) (elt := elt) (tg := tg) (iter := iter) (ifs := ifs) (scope := scope) (pos := pos) (wi := tI W E (evI (W.cl k) it)) (g := gIT W.K t) (tt := tT W E0 (evC (W.cl k) c)) (te := tE W E0 (ev (W.cl k) a)) (own := own.map fun i => (Ns.getD i "", i)) hX.calm (by rw [hX.N]; exact hX.nd) (sndI hW L it h5 htg hX) (by rw [hX.N, hX.sc]; exact hblk)
        (fun s H C cl fp => by
          have z := pg_IT (hX.tblk s H C cl fp) h4
          have ek : (X.blk s H scope (compEnvC scope cl C X.env) fp).K = W.K := hX.K
          rw [ek] at z
          exact z)
        (fun s H C cl fp => sndC hW L c h7 (hX.blk s H C cl fp)) (fun s H C cl fp => (snd hW L a h8 (hX.blk s H C cl fp)).pe) (foldSet_of (bnot h6))
      rw [e2] at q
      refine .plain (PE.weak q fun σ H Q w => comp_E hown w) rfl
    · cases h
theorem sndEs (hW : WOk W cc) (L : Lv W k) : ∀ (a : IEs) {scp : Scope} {E : XK} {X : Cx} {e : List Expr}, chkEs cc Ns scp a e = true → XOk W Ns scp k E X → PA X e (tA W E (evs (W.cl k) a))
  | .nil, scp, E, X, e, h, hX => by
    unfold chkEs at h
    split at h
    · exact PA.of_nil rfl
    · cases h
  | .cons a r, scp, E, X, e, h, hX => by
    unfold chkEs at h
    split at h
    · obtain ⟨h1, h3⟩ := bex h
      obtain ⟨h1, h2⟩ := bex h1
      exact PA.weak (pa_cons (snd hW L a h2 hX).pe (sndEs hW L r h3 hX) (star_cons (bnot h1))) fun σ H Q w => evs_cons w
    · cases h
theorem sndO (hW : WOk W cc) (L : Lv W k) : ∀ (a : IO) {scp : Scope} {E : XK} {X : Cx} {e : Option Expr}, chkO cc Ns scp a e = true → XOk W Ns scp k E X → PO X e (tO W E (evO (W.cl k) a))
  | .none, scp, E, X, e, h, hX => by
    unfold chkO at h
    split at h
    · refine PO.weak po_none fun σ H Q w => ?_
      obtain ⟨m, ρ, st, s, r, p⟩ := w
      rw [evO] at p
      exact p.now s
    · cases h
  | .some a, scp, E, X, e, h, hX => by
    unfold chkO at h
    split at h
    · refine PO.weak (po_some (snd hW L a h hX).pe) fun σ H Q w => ?_
      obtain ⟨m, ρ, st, s, r, p⟩ := w
      rw [evO] at p
      refine ⟨m, ρ, st, s, r, p.bind.imp fun d m1 st1 H1 e1 s1 p1 v rv => ?_⟩
      obtain ⟨i, rfl, p2⟩ := p1.iOf
      rw [Rp] at rv; subst rv
      exact ⟨i, rfl, p2.now s1⟩
    · cases h
theorem sndC (hW : WOk W cc) (L : Lv W k) : ∀ (a : IO) {scp : Scope} {E : XK} {X : Cx} {e : List Expr}, chkC cc Ns scp a e = true → XOk W Ns scp k E X → PTs X e (tT W E (evC (W.cl k) a))
  | .none, scp, E, X, e, h, hX => by
    unfold chkC at h
    split at h
    · refine ⟨fun pins s σ H Q I w => pts_nil.run pins s σ H Q I ?_⟩
      obtain ⟨m, ρ, st, s, r, p⟩ := w
      rw [evC] at p
      exact p.now s
    · cases h
  | .some a, scp, E, X, e, h, hX => by
    unfold chkC at h
    split at h
    · refine ⟨fun pins s σ H Q I w => (pts_one (snd hW L a h hX).pt).run pins s σ H Q I ?_⟩
      obtain ⟨m, ρ, st, s, r, p⟩ := w
      rw [evC] at p
      exact ⟨m, ρ, st, s, r, p⟩
    · cases h
theorem sndI (hW : WOk W cc) (L : Lv W k) : ∀ (a : II) {scp : Scope} {E : XK} {X : Cx} {tg e : Expr}, chkI cc Ns scp a e = true → tgOk a tg = true → XOk W Ns scp k E X → PI X tg e (tI W E (evI (W.cl k) a))
  | .enum a, scp, E, X, tg, e, h, ht, hX => by
    unfold chkI at h
    cases tg with
    | Tuple elts kk tpos =>
      split at h
      · obtain ⟨h1, h4⟩ := bex h
        obtain ⟨h1, h3⟩ := bex h1
        obtain ⟨h1, h2⟩ := bex h1
        exact pi_enumE hX hW (of_decide_eq_true h1) h2 (bnot h3) (snd hW L a h4 hX).pe
      · cases h
    | _ => exact absurd ht (by simp [tgOk])
  | .it a, scp, E, X, tg, e, h, _, hX => by
    unfold chkI at h
    exact pi_itE hX.K (snd hW L a h hX).pe
  | .rng1 a, scp, E, X, tg, e, h, _, hX => by
    unfold chkI at h
    split at h
    · obtain ⟨h1, h4⟩ := bex h
      obtain ⟨h1, h3⟩ := bex h1
      obtain ⟨h1, h2⟩ := bex h1
      exact pi_rng1E hX hW (of_decide_eq_true h1) h2 (bnot h3) (snd hW L a h4 hX).pe
    · cases h
  | .rng2 a b, scp, E, X, tg, e, h, _, hX => by
    unfold chkI at h
    split at h
    · obtain ⟨h1, h6⟩ := bex h
      obtain ⟨h1, h5⟩ := bex h1
      obtain ⟨h1, h4⟩ := bex h1
      obtain ⟨h1, h3⟩ := bex h1
      obtain ⟨h1, h2⟩ := bex h1
      exact pi_rng2E hX hW (of_decide_eq_true h1) h2 (bnot h3) (bnot h4) (snd hW L a h5 hX).pe (snd hW L b h6 hX).pe
    · cases h
end
end
end Z
namespace Z
open PySem L2
/-! ### statements -/
def PgS (W : Wd) (E : XK) (m : List Addr) (H : Hp) (r : SR) (D : Ends) : Prop := match r with
  | .ok .nx ρ st => ∀ σ' H' m', Ext m m' H H' → Sim W H' m' st → EnvR W H' m' ρ σ' → D.nx σ' H'
  | .ok .bk ρ st => ∀ σ' H' m', Ext m m' H H' → Sim W H' m' st → EnvR W H' m' ρ σ' → D.bk σ' H'
  | .ok .ct ρ st => ∀ σ' H' m', Ext m m' H H' → Sim W H' m' st → EnvR W H' m' ρ σ' → D.ct σ' H'
  | .ok (.rt d) _ st => ∀ v H' m', Ext m m' H H' → Sim W H' m' st → Rp W.K H' m' d v → D.rt v H'
  | .exc e _ st => ∀ dx H' m', Ext m m' H H' → Sim W H' m' st → ExR W H' m' e dx → E (.ref (W.ca e.c)) dx H'
  | .stuck => False
def tS (W : Wd) (E : XK) (f : Env → Sto → SR) : TS := fun D σ H => ∃ m ρ st, Sim W H m st ∧ EnvR W H m ρ σ ∧ PgS W E m H (f ρ st) D
section
variable {W : Wd} {E : XK} {m m' : List Addr} {H H' : Hp} {α : Type} {D : Ends}
theorem PgS.up {r : SR} (e : Ext m m' H H') (h : PgS W E m H r D) : PgS W E m' H' r D := by
  cases r with
  | ok f ρ st => cases f with
    | nx => exact fun σ2 H2 m2 e2 => h σ2 H2 m2 (e.trans e2)
    | bk => exact fun σ2 H2 m2 e2 => h σ2 H2 m2 (e.trans e2)
    | ct => exact fun σ2 H2 m2 e2 => h σ2 H2 m2 (e.trans e2)
    | rt d => exact fun v H2 m2 e2 => h v H2 m2 (e.trans e2)
  | exc x ρ st => exact fun dx H2 m2 e2 => h dx H2 m2 (e.trans e2)
  | stuck => exact h
theorem PgS.sbind {r : R α} {ρ : Env} {f : α → Sto → SR} (h : PgS W E m H (r.sbind ρ f) D) : Pg W E m H r fun a m' st' H' => PgS W E m' H' (f a st') D := by
  cases r with
  | ok a st => exact fun H2 m2 e2 s2 => PgS.up e2 h
  | exc x st => exact h
  | stuck => exact h
/-- behind a statement -/
def kNx (W : Wd) (E : XK) (m : List Addr) (H : Hp) (f : Env → Sto → SR) (D : Ends) : L2.St → Hp → Prop := fun σ' H' => ∃ m' ρ' st', Ext m m' H H' ∧ Sim W H' m' st' ∧ EnvR W H' m' ρ' σ' ∧ PgS W E m' H' (f ρ' st') D
theorem PgS.then {r : SR} {f : Env → Sto → SR} (h : PgS W E m H (r.then f) D) : PgS W E m H r { D with nx := kNx W E m H f D } := by
  cases r with
  | ok g ρ st => cases g with
    | nx => exact fun σ2 H2 m2 e2 s2 r2 => ⟨m2, ρ, st, e2, s2, r2, PgS.up e2 h⟩
    | bk => exact h
    | ct => exact h
    | rt d => exact h
  | exc x ρ st => exact h
  | stuck => exact h
theorem PgS.noex {r : SR} (h : PgS W E m H r.noex D) : PgS W (fun _ _ _ => False) m H r D := by
  cases r with
  | ok g ρ st => cases g <;> exact h
  | exc x ρ st => exact h.elim
  | stuck => exact h
theorem PgS.turn {r : SR} {f : Env → Sto → SR} (h : PgS W E m H (r.turn f) D) : PgS W E m H r { D with nx := kNx W E m H f D, ct := kNx W E m H f D, bk := D.nx } := by
  cases r with
  | ok g ρ st => cases g with
    | nx => exact fun σ2 H2 m2 e2 s2 r2 => ⟨m2, ρ, st, e2, s2, r2, PgS.up e2 h⟩
    | bk => exact h
    | ct => exact fun σ2 H2 m2 e2 s2 r2 => ⟨m2, ρ, st, e2, s2, r2, PgS.up e2 h⟩
    | rt d => exact h
  | exc x ρ st => exact h
  | stuck => exact h
theorem PgS.turn' {r : SR} {f : Env → Sto → SR} {H0 : Hp} {m0 : List Addr} (e : Ext m0 m H0 H) (h : PgS W E m0 H0 (r.turn f) D) : PgS W E m H r { D with nx := kNx W E m0 H0 f D, ct := kNx W E m0 H0 f D, bk := D.nx } := PgS.up e (PgS.turn h)
theorem PgS.ite {c : Prop} [Decidable c] {a : SR} (h : PgS W E m H (if c then a else .stuck) D) : c ∧ PgS W E m H a D := by
  by_cases hc : c
  · rw [if_pos hc] at h; exact ⟨hc, h⟩
  · rw [if_neg hc] at h; exact h.elim
end
section
variable {W : Wd} {cc : CC} {Ns : List Str} {scp : Scope} {k : Nat} {E : XK} {X : Cx} {C : Cl} {F : Nat} {D : Ends} {σ : L2.St} {H : Hp}
theorem asg_S {t : IT} {e : IE} (h : tS W E (evS C F (.asg t e)) D σ H) : tAsg (tE W E (ev C e)) (gIT W.K t) D σ H := by
  obtain ⟨m, ρ, st, s, r, p⟩ := h
  rw [evS] at p
  refine ⟨m, ρ, st, s, r, p.sbind.imp fun d m1 st1 H1 e1 s1 p1 v rv => ?_⟩
  split at p1
  · rename_i ρ' hρ
    exact gIT_ok rv (r.up s e1) hρ fun σ' r' _ => p1 σ' H1 m1 Ext.refl s1 r'
  · exact p1.elim
theorem setf_S (hW : WOk W cc) {a e : IE} {f : Str} (hf : f ∈ cc.flds) (h : tS W E (evS C F (.setf a f e)) D σ H) : sFld W.K (tE W E (ev C a)) (tE W E (ev C e)) f D σ H := by
  obtain ⟨m, ρ, st, s, r, p⟩ := h
  rw [evS] at p
  refine ⟨m, ρ, st, s, r, p.sbind.imp fun y m1 st1 H1 e1 s1 p1 vy ry => ?_⟩
  have r1 := r.up s e1
  refine ⟨m1, ρ, st1, s1, r1, p1.sbind.imp fun x m2 st2 H2 e2 s2 p2 vx rx => ?_⟩
  have r2 := r1.up s1 e2
  have ry := ry.up s1 e2
  cases x with
  | loc n =>
    simp only at p2
    split at p2
    · rename_i c fs hc
      obtain ⟨hlen, p2⟩ := p2.ite
      obtain ⟨ad, had, dx, gs, hcl, h1, h2⟩ := s2.at hc
      rw [Rp] at rx
      obtain ⟨a', ha', rfl⟩ := rx
      rw [had] at ha'; cases ha'
      have hl : gs.length = fs.length := by have := congrArg List.length h2.1; simpa using this
      refine ⟨ad, W.ca c, dx, gs, rfl, h1, hW.cls c hcl, hW.nf c f hcl hf, by omega, ?_⟩
      have e0 : Ext m2 m2 H2 (upd H2 ad (.ins (W.ca c) dx (putF f vy gs))) := ⟨⟨[], by simp⟩, fun b u h nn => ⟨by
        rw [upd_ne fun z => nn (by rw [z]; exact List.mem_of_getElem? had)]; exact h, nn⟩⟩
      obtain ⟨s3, e3⟩ := s2.write had (o := .ins (W.ca c) dx (putF f vy gs)) (c := .ins c (putF' f y fs)) ⟨dx, _, hcl, upd_same, (h2.up s2 e0).put (ry.up s2 e0)⟩
      exact p2 σ _ m2 e3 s3 (r2.up s2 e3)
    · exact p2.elim
  | _ => exact p2.elim
def rDkSet : TSet := fun o i v H Q => ∃ a H', o = .ref a ∧ DPut H a i v H' ∧ Q H'
theorem set_dk (hu : X.A.units + 1 < cLine) : PSet X rDkSet := by
  intro pins s σ H o i v ov iv u Q I ro ri rv h
  obtain ⟨a, H', rfl, g, q⟩ := h
  obtain rfl : ov = Value.ref a := ro
  exact d_setItem hu I g ri rv fun s' I' => ⟨H', I', q⟩
def rSetA (W : Wd) : TSet := fun o i v H Q => rSetL o i v H Q ∨ (rNdSet W.P W.w W.K o i v H Q ∨ rDkSet o i v H Q)
theorem set_A (hP : X.prog = W.P) (hw : X.w = W.w) (hK : X.K = W.K) (hu : X.A.units + 100 < cLine) : PSet X (rSetA W) := by
  intro pins s σ H o i v ov iv u Q I ro ri rv h
  rcases h with h | h | h
  · exact set_list pins s σ H o i v ov iv u Q I ro ri rv h
  · exact set_nd (by omega) pins s σ H o i v ov iv u Q I ro ri rv (by rw [hP, hw, hK]; exact h)
  · exact set_dk (by omega) pins s σ H o i v ov iv u Q I ro ri rv h
theorem chg_dk {m : List Addr} {st : Sto} {ρ : Env} {n : Nat} {k d : Z.D} {vo vk v : V} {kvs : List (Z.D × Z.D)} (s : Sim W H m st) (r : EnvR W H m ρ σ) (ro : Rp W.K H m (.loc n) vo) (rk : Rp W.K H m k vk) (rd : Rp W.K H m d v) (hx : st[n]? = some (.dck kvs)) (hk : keyK k = true) (hl : kvs.length < LIM)
    (p : PgS W E m H (.ok .nx ρ (st.set n (.dck (dPut kvs k d)))) D) : rDkSet vo vk v H (fun H' => D.nx σ H') := by
  obtain ⟨a, rfl, ha, xs, h1, h2⟩ := loc_at s ro hx
  obtain ⟨ky, g1⟩ := keyK_ok hk
  have := kyD_v g1 rk; subst this
  refine ⟨a, _, rfl, DPut.k h1 (by rw [h2.len]; exact lim_lt hl), ?_⟩
  have e0 : Ext m m H (upd H a (.dK (putK xs ky v))) := ⟨⟨[], by simp⟩, fun c u h nn => ⟨by
    rw [upd_ne fun z => nn (by rw [z]; exact List.mem_of_getElem? ha)]; exact h, nn⟩⟩
  obtain ⟨s4, e4⟩ := s.write ha (o := .dK (putK xs ky v)) (c := .dck (dPut kvs k d)) ⟨_, upd_same, (h2.up s e0).put g1 (rd.up s e0)⟩
  exact p σ _ m e4 s4 (r.up s e4)
theorem chg_dt {m : List Addr} {st : Sto} {ρ : Env} {n : Nat} {k d : Z.D} {vo vk v : V} {kvs : List (Z.D × Z.D)} (s : Sim W H m st) (r : EnvR W H m ρ σ) (ro : Rp W.K H m (.loc n) vo) (rk : Rp W.K H m k vk) (rd : Rp W.K H m d v) (hx : st[n]? = some (.dct kvs)) (hk : keyT k = true) (hl : kvs.length < LIM)
    (p : PgS W E m H (.ok .nx ρ (st.set n (.dct (dPut kvs k d)))) D) : rNdSet W.P W.w W.K vo vk v H (fun H' => D.nx σ H') := by
  obtain ⟨a, rfl, ha, xs, h1, h2⟩ := loc_at s ro hx
  obtain ⟨b, nk, rfl, g1, g2, g3⟩ := keyT_ok hk rk
  refine ⟨a, b, xs, nk, rfl, rfl, h1, h2.keys, g3, g2, by rw [h2.len]; exact lim_lt hl, fun u ru => ?_⟩
  have e0 : Ext m m H (upd H a (NdO W.P W.w a (storedH xs nk b u))) := ⟨⟨[], by simp⟩, fun c u h nn => ⟨by
    rw [upd_ne fun z => nn (by rw [z]; exact List.mem_of_getElem? ha)]; exact h, nn⟩⟩
  obtain ⟨s4, e4⟩ := s.write ha (o := NdO W.P W.w a (storedH xs nk b u)) (c := .dct (dPut kvs k d)) ⟨_, upd_same, (h2.up s e0).put g1 g2 (rk.up s e0) ru (rd.up s e0)⟩
  exact p σ _ m e4 s4 (r.up s e4)
theorem seti_S {a i e : IE} (h : tS W E (evS C F (.seti a i e)) D σ H) : tAsg (tE W E (ev C e)) (gSub (tE W E (ev C a)) (tE W E (ev C i)) (rSetA W)) D σ H := by
  obtain ⟨m, ρ, st, s, r, p⟩ := h
  rw [evS] at p
  refine ⟨m, ρ, st, s, r, p.sbind.imp fun y m1 st1 H1 e1 s1 p1 vy ry => ?_⟩
  have r1 := r.up s e1
  refine ⟨m1, ρ, st1, s1, r1, p1.sbind.imp fun x m2 st2 H2 e2 s2 p2 vx rx => ?_⟩
  have r2 := r1.up s1 e2
  refine ⟨m2, ρ, st2, s2, r2, p2.sbind.imp fun z m3 st3 H3 e3 s3 p3 vz rz => ?_⟩
  have r3 := r2.up s2 e3
  have rx := rx.up s2 e3
  have ry := (ry.up s1 e2).up s2 e3
  split at p3
  · skip
    split at p3
    · rename_i xs hx
      split at p3
      · rename_i j hj
        obtain ⟨b, vs, rfl, hb, h1, h2⟩ := list_at s3 rx hx
        rw [Rp] at rz; subst rz
        refine .inl ⟨b, vs, _, j, rfl, rfl, h1, by rw [h2.len]; exact hj, ?_⟩
        have e0 : Ext m3 m3 H3 (upd H3 b (.lst (vs.set j vy))) := ⟨⟨[], by simp⟩, fun c u h nn => ⟨by
          rw [upd_ne fun z => nn (by rw [z]; exact List.mem_of_getElem? hb)]; exact h, nn⟩⟩
        obtain ⟨s4, e4⟩ := s3.write hb (o := .lst (vs.set j vy)) (c := .lst (xs.set j y)) ⟨_, upd_same, (h2.up s3 e0).set (ry.up s3 e0) j⟩
        exact p3 σ _ m3 e4 s4 (r3.up s3 e4)
      · exact p3.elim
    · rename_i kvs hx
      obtain ⟨c, p3⟩ := p3.ite
      exact .inr (.inr (chg_dk s3 r3 rx rz ry hx rfl c p3))
    · exact p3.elim
  · split at p3
    · rename_i kvs hx
      obtain ⟨c, p3⟩ := p3.ite
      exact .inr (.inr (chg_dk s3 r3 rx rz ry hx rfl c p3))
    · exact p3.elim
  · split at p3
    · rename_i kvs hx
      obtain ⟨c, p3⟩ := p3.ite
      exact .inr (.inl (chg_dt s3 r3 rx rz ry hx c.1 c.2 p3))
    · exact p3.elim
  · exact p3.elim
theorem expr_S {e : IE} (h : tS W E (evS C F (.expr e)) D σ H) : tDrop (tE W E (ev C e)) D σ H := by
  obtain ⟨m, ρ, st, s, r, p⟩ := h
  rw [evS] at p
  exact ⟨m, ρ, st, s, r, p.sbind.imp fun d m1 st1 H1 e1 s1 p1 v rv => p1 σ H1 m1 Ext.refl s1 (r.up s e1)⟩
theorem ret_S {e : IE} (h : tS W E (evS C F (.ret e)) D σ H) : tRet (tE W E (ev C e)) D σ H := by
  obtain ⟨m, ρ, st, s, r, p⟩ := h
  rw [evS] at p
  exact ⟨m, ρ, st, s, r, p.sbind.imp fun d m1 st1 H1 e1 s1 p1 v rv => p1 v H1 m1 Ext.refl s1 rv⟩
theorem tryN_S {b : ISs} (h : tS W E (evS C F (.tryN b)) D σ H) : tS W E0 (evSs C F b) D σ H := by
  obtain ⟨m, ρ, st, s, r, p⟩ := h
  rw [evS] at p
  exact ⟨m, ρ, st, s, r, p.noex⟩
theorem ite_S {c : IE} {a b : ISs} (h : tS W E (evS C F (.ite c a b)) D σ H) : tIfS (tT W E (evT C c)) (tS W E (evSs C F a)) (tS W E (evSs C F b)) D σ H := by
  obtain ⟨m, ρ, st, s, r, p⟩ := h
  rw [evS] at p
  refine ⟨m, ρ, st, s, r, p.sbind.imp fun k m1 st1 H1 e1 s1 p1 => ?_⟩
  cases k with
  | true => exact iteT ⟨m1, ρ, st1, s1, r.up s e1, p1⟩
  | false => exact iteF ⟨m1, ρ, st1, s1, r.up s e1, p1⟩
theorem whl_S {c : IE} {b : ISs} (h : tS W E (evS C F (.whl c b)) D σ H) : tWhile (tT W E (evT C c)) (tS W E (evSs C F b)) D σ H := by
  obtain ⟨m, ρ, st, s, r, p⟩ := h
  rw [evS] at p
  refine ⟨fun n σ H => ∃ m ρ st, Sim W H m st ∧ EnvR W H m ρ σ ∧ PgS W E m H (loopW (evT C c) (evSs C F b) n ρ st) D, ⟨F, m, ρ, st, s, r, p⟩, ?_⟩
  rintro n σ H ⟨m, ρ, st, s, r, p⟩
  cases n with
  | zero => exact p.elim
  | succ n =>
    rw [loopW] at p
    refine ⟨m, ρ, st, s, r, p.sbind.imp fun k m1 st1 H1 e1 s1 p1 => ?_⟩
    have r1 := r.up s e1
    cases k with
    | true =>
      refine iteT ⟨kNx W E m1 H1 (loopW (evT C c) (evSs C F b) n) D, fun σ' H' ⟨m', ρ', st', _, s', r', p'⟩ => ⟨n, Nat.lt_succ_self n, m', ρ', st', s', r', p'⟩, m1, ρ, st1, s1, r1, ?_⟩
      rw [if_pos rfl] at p1
      exact p1.turn
    | false =>
      rw [if_neg Bool.false_ne_true] at p1
      exact iteF (p1 σ H1 m1 Ext.refl s1 r1)
theorem for_S {t : IT} {it : II} {b : ISs} (h : tS W E (evS C F (.for_ t it b)) D σ H) : tFor (tI W E (evI C it)) (gIT W.K t) (tS W E (evSs C F b)) D σ H := by
  obtain ⟨m, ρ, st, s, r, p⟩ := h
  rw [evS] at p
  refine ⟨m, ρ, st, s, r, p.sbind.imp fun w m1 st1 H1 e1 s1 p1 J hJ => ?_⟩
  have r1 := r.up s e1
  refine ⟨fun i mm σ H => mm = w.xs.length - i ∧ i ≤ w.xs.length ∧ ∃ m ρ st, Ext m1 m H1 H ∧ Sim W H m st ∧ EnvR W H m ρ σ ∧ PgS W E m H (loopF w t (evSs C F b) (w.xs.drop i) ρ st) D,
    ⟨w.xs.length, by simp, Nat.zero_le _, m1, ρ, st1, Ext.refl, s1, r1, by simpa using p1⟩, ?_⟩
  rintro i mm σ H2 ⟨rfl, hi, m2, ρ2, st2, e2, s2, r2, p2⟩
  by_cases hlt : i < w.xs.length
  · right
    rw [List.drop_eq_getElem_cons hlt] at p2
    unfold loopF at p2
    obtain ⟨hst, p2⟩ := p2.ite
    obtain ⟨w1, w2⟩ := hJ H2 m2 st2 e2 s2 hst i
    obtain ⟨g1, g2⟩ := w1 _ (List.getElem?_eq_getElem hlt)
    refine ⟨g1, kNx W E m2 H2 (loopF w t (evSs C F b) (w.xs.drop (i + 1))) D, fun σ' H' ⟨m', ρ', st', e', s', r', p'⟩ => ⟨w.xs.length - (i + 1), by omega, rfl, hlt, m', ρ', st', e2.trans e', s', r', p'⟩, fun x H' hy => ?_⟩
    obtain ⟨ey, sy, rx⟩ := g2 x H' hy
    split at p2
    · rename_i ρ' hρ
      exact gIT_ok rx (r2.up s2 ey) hρ fun σ' r' _ => ⟨m2, ρ', st2, sy, r', PgS.turn' ey p2⟩
    · exact p2.elim
  · left
    have hi' : i = w.xs.length := by omega
    subst hi'
    rw [List.drop_length] at p2
    unfold loopF at p2
    obtain ⟨hst, p2⟩ := p2.ite
    exact ⟨(hJ H2 m2 st2 e2 s2 hst _).2 (Nat.le_refl _), p2 σ H2 m2 Ext.refl s2 r2⟩

/-! ### blocks -/
structure SOk (W : Wd) (Ns : List Str) (scp : Scope) (k : Nat) (E : XK) (X : Cx) : Prop extends XOk W Ns scp k E X where
  fn : X.fn = fun _ => true
  kd : scp.kind = .function
  own : PassesOwn (model X.prog X.w) X.A X.env X.xe
theorem SOk.t (h : SOk W Ns scp k E X) : TOk Ns scp (fun _ => true) X := ⟨h.N, h.nd, h.sc, h.fn, h.calm⟩
theorem sw_plain {v : Expr} {t : Option Expr} {l : Nat} {env : PySem.Env} (h : isComp v = false) : swapsWith v t l env = pure false := by
  cases v <;> first | rfl | cases h
theorem sw_attr {v o : Expr} {f : Str} {p : Pos} {l : Nat} {env : PySem.Env} : swapsWith v (some (.Attribute o f p)) l env = pure false := by
  cases v <;> rfl
theorem sw_sub {v o i : Expr} {p : Pos} {l : Nat} {env : PySem.Env} : swapsWith v (some (.Subscript o i p)) l env = pure false := by
  cases v <;> rfl
theorem swap_none {tg v : Expr} {env : PySem.Env} (h : bothTup tg v = false) (ht : ∀ es p, tg ≠ .List es p) : swappedStores [tg] v env = pure none := by
  cases tg with
  | List es p => exact absurd rfl (ht es p)
  | Tuple ts k p => cases v <;> first | rfl | cases h
  | _ => rfl
theorem sub_store {o i : Expr} {pos : Pos} {env : PySem.Env} (h : isSlice i = false) : ∀ v, assign (.Subscript o i pos) env v = (do
      let ov ← holding [v] (eval o env)
      let iv ← holding [v, ov] (eval i env)
      standAt pos
      holding [v, ov, iv] (setItem ov iv v)
      release [v, ov, iv] []) := by
  intro v
  cases i <;> first | rfl | cases h
end
end Z
namespace Z
open PySem L2
section
variable {W : Wd} {cc : CC} {Ns : List Str} {k : Nat}
/-- name = [.. for ..] -/
theorem set_comp (hW : WOk W cc) (L : Lv W k) {scp : Scope} {E : XK} {X : Cx} {e : IE} {elt : Expr} {gs : List Comprehension} {scope : Scope} {pos py spos : Pos} {y : Str} {i : Nat} (hX : SOk W Ns scp k E X)
    (h : chkE cc Ns scp e (.ListComp elt gs scope pos) = true) (hi : Ns[i]? = some y) (hl : scp.names.lookup y = some .local) (hline : (py.line == pos.line) = true) (hno : (scope.names.any fun (n, k) => n == y && (k == .local || k == .cell)) = false) :
    PS X (.Assign [.Name y py] (.ListComp elt gs scope pos) spos) (tAsg (tE W E (ev (W.cl k) e)) (gName i)) := by
  cases e with
  | comp a t own it c =>
    unfold chkE at h
    split at h
    · rename_i x elt tg iter ifs kk scope pos ee
      injection ee with ee1 ee2 ee3 ee4
      subst ee1 ee2 ee3 ee4
      obtain ⟨h1, h8⟩ := bex h
      obtain ⟨h1, h7⟩ := bex h1
      obtain ⟨h1, h6⟩ := bex h1
      obtain ⟨h1, h5⟩ := bex h1
      obtain ⟨h1, htg⟩ := bex h1
      obtain ⟨h1, h4⟩ := bex h1
      obtain ⟨h1, h3⟩ := bex h1
      obtain ⟨h1, h2⟩ := bex h1
      have := of_decide_eq_true h1; subst this
      have hX' := hX.toXOk
      have hown : ∀ i ∈ t.slots, i ∈ own := fun i hi => of_decide_eq_true (List.all_eq_true.mp h3 i hi)
      have hblk := blkOk_by h2
      have e2 : (own.map fun i => (Ns.getD i "", i)).map (·.2) = own := by rw [List.map_map]; exact (List.map_congr_left fun _ _ => rfl).trans (List.map_id _)
      have q := ps_setLc (X := X) (i := i) (y := y) (py := py) (spos := spos) (elt := elt) (tg := tg) (iter := iter) (ifs := ifs) (scope := scope) (pos := pos) (wi := tI W E (evI (W.cl k) it)) (g := gIT W.K t) (tt := tT W E0 (evC (W.cl k) c)) (te := tE W E0 (ev (W.cl k) a)) (own := own.map fun i => (Ns.getD i "", i)) hX.calm (by rw [hX.N]; exact hX.nd)
        (by rw [hX.N]; exact hi) (by rw [hX.sc]; exact hl) (sw_true (by rw [hX.sc]; exact hX.kd) (by rw [hX.sc]; exact hl) hline hno) (sndI hW L it h5 htg hX') (by rw [hX.N, hX.sc]; exact hblk)
        (fun s H C cl fp => by
          have z := pg_IT (hX'.tblk s H C cl fp) h4
          have ek : (X.blk s H scope (compEnvC scope cl C X.env) fp).K = W.K := hX.K
          rw [ek] at z
          exact z)
        (fun s H C cl fp => sndC hW L c h7 (hX'.blk s H C cl fp)) (fun s H C cl fp => (snd hW L a h8 (hX'.blk s H C cl fp)).pe) (foldSet_of (bnot h6))
      rw [e2] at q
      exact PS.weak q fun D σ H w => comp_E hown w
    · cases h
  | _ => unfold chkE at h; first | (cases h; done) | (simp at h; done)
theorem SOk.nox {scp : Scope} {E : XK} {X : Cx} (h : SOk W Ns scp k E X) : SOk W Ns scp k E0 X.nox :=
  ⟨⟨h.prog, h.w, h.K, h.mg, h.base, h.N, h.nd, h.sc, h.calm, h.room, passL⟩, h.fn, h.kd, PassesOwn.never⟩
mutual
/-- THE RULE for statements -/
theorem sndS (hW : WOk W cc) (L : Lv W k) : ∀ (a : IS) {scp : Scope} {E : XK} {X : Cx} {s : Stmt}, chkS cc Ns scp a s = true → SOk W Ns scp k E X → PS X s (tS W E (evS (W.cl k) W.F a))
  | .asg t e, scp, E, X, s, h, hX => by
    unfold chkS at h
    split at h
    · rename_i tg v pos
      obtain ⟨h1, h4⟩ := bex h
      obtain ⟨h1, h3⟩ := bex h1
      obtain ⟨h1, h2⟩ := bex h1
      have plain : isComp v = false → PS X (.Assign [tg] v pos) (tS W E (evS (W.cl k) W.F (.asg t e))) := fun hv => by
        have z := pg_IT hX.t h3
        rw [hX.K] at z
        have hl : ∀ es p, tg ≠ .List es p := fun es p q => by
          subst q
          unfold chkT at h3
          cases t <;> first | (cases h3; done) | (unfold tgB at h3; cases h3; done)
        have h1' : (assignEach [tg] X.env).map (·.2) = [assign tg X.env] := by
          cases tg <;> first | rfl | (cases t <;> (unfold chkT at h3; first | (cases h3; done) | (unfold tgB at h3; cases h3; done)))
        exact PS.weak (ps_asg (snd hW L e h4 hX.toXOk).pe z (sw_plain hv) (swap_none (bnot h1) hl) h1') fun D σ H w => asg_S w
      unfold setComp at h2
      split at h2
      · obtain ⟨k1, k3⟩ := bex h2
        obtain ⟨k1, k2⟩ := bex k1
        cases t with
        | name i =>
          unfold chkT tgB at h3
          obtain ⟨l1, l2⟩ := bex h3
          exact PS.weak (set_comp hW L hX h4 (of_decide_eq_true l1) (of_decide_eq_true k1) k2 (bnot k3)) fun D σ H w => asg_S w
        | tup is => cases h3
      · exact plain (bnot h2)
    · cases h
  | .setf a f e, scp, E, X, s, h, hX => by
    unfold chkS at h
    split at h
    · obtain ⟨h1, h4⟩ := bex h
      obtain ⟨h1, h3⟩ := bex h1
      obtain ⟨h1, h2⟩ := bex h1
      have := of_decide_eq_true h1; subst this
      refine PS.weak (ps_fld (snd hW L a h3 hX.toXOk).pe (snd hW L e h4 hX.toXOk).pe sw_attr) fun D σ H w => ?_
      rw [hX.K]
      exact setf_S hW (of_decide_eq_true h2) w
    · cases h
  | .seti a i e, scp, E, X, s, h, hX => by
    unfold chkS at h
    split at h
    · obtain ⟨h1, h4⟩ := bex h
      obtain ⟨h1, h3⟩ := bex h1
      obtain ⟨h1, h2⟩ := bex h1
      have hs := bnot h1
      exact PS.weak (ps_asg (snd hW L e h4 hX.toXOk).pe (pg_sub (snd hW L a h2 hX.toXOk).pe (snd hW L i h3 hX.toXOk).pe (set_A hX.prog hX.w hX.K (units100 hX.toXOk)) (sub_store hs)) (by unfold swapsWithSole; exact sw_sub) (by rfl) (by rfl)) fun D σ H w => seti_S w
    · cases h
  | .expr e, scp, E, X, s, h, hX => by
    unfold chkS at h
    split at h
    · obtain ⟨h1, h2⟩ := bex h
      exact PS.weak (ps_expr (snd hW L e h2 hX.toXOk).pe (sw_plain (bnot h1))) fun D σ H w => expr_S w
    · cases h
  | .ret e, scp, E, X, s, h, hX => by
    unfold chkS at h
    split at h
    · exact PS.weak (ps_ret (snd hW L e h hX.toXOk).pe) fun D σ H w => ret_S w
    · cases h
  | .retN, scp, E, X, s, h, hX => by
    unfold chkS at h
    split at h
    · refine PS.weak ps_retN fun D σ H w => ?_
      obtain ⟨m, ρ, st, s, r, p⟩ := w
      rw [evS] at p
      exact p _ H m Ext.refl s (by rw [Rp])
    · cases h
  | .pass, scp, E, X, s, h, hX => by
    unfold chkS at h
    split at h
    · refine PS.weak ps_pass fun D σ H w => ?_
      obtain ⟨m, ρ, st, s, r, p⟩ := w
      rw [evS] at p
      exact p σ H m Ext.refl s r
    · cases h
  | .brk, scp, E, X, s, h, hX => by
    unfold chkS at h
    split at h
    · refine PS.weak ps_break fun D σ H w => ?_
      obtain ⟨m, ρ, st, s, r, p⟩ := w
      rw [evS] at p
      exact p σ H m Ext.refl s r
    · cases h
  | .cont, scp, E, X, s, h, hX => by
    unfold chkS at h
    split at h
    · refine PS.weak ps_continue fun D σ H w => ?_
      obtain ⟨m, ρ, st, s, r, p⟩ := w
      rw [evS] at p
      exact p σ H m Ext.refl s r
    · cases h
  | .ite c a b, scp, E, X, s, h, hX => by
    unfold chkS at h
    split at h
    · obtain ⟨h1, h3⟩ := bex h
      obtain ⟨h1, h2⟩ := bex h1
      exact PS.weak (ps_if (snd hW L c h1 hX.toXOk).pt (sndSs hW L a h2 hX) (sndSs hW L b h3 hX)) fun D σ H w => ite_S w
    · cases h
  | .whl c b, scp, E, X, s, h, hX => by
    unfold chkS at h
    split at h
    · obtain ⟨h1, h2⟩ := bex h
      exact PS.weak (ps_while hX.own (snd hW L c h1 hX.toXOk).pt (sndSs hW L b h2 hX)) fun D σ H w => whl_S w
    · cases h
  | .for_ t it b, scp, E, X, s, h, hX => by
    unfold chkS at h
    split at h
    · obtain ⟨h1, h4⟩ := bex h
      obtain ⟨h1, h3⟩ := bex h1
      obtain ⟨h1, h2⟩ := bex h1
      obtain ⟨h1, htg⟩ := bex h1
      have z := pg_IT hX.t h1
      rw [hX.K] at z
      exact PS.weak (ps_for hX.own hX.calm (sndI hW L it h2 htg hX.toXOk) z (sndSs hW L b h4 hX) (foldSet_of (bnot h3))) fun D σ H w => for_S w
    · cases h
  | .tryN b, scp, E, X, s, h, hX => by
    unfold chkS at h
    split at h
    · exact PS.weak (ps_try_thru0 (sndSs hW L b h hX.nox)) fun D σ H w => tryN_S w
    · cases h
  | .never, scp, E, X, s, h, hX => by
    refine PS.weak ps_never fun D σ H w => ?_
    obtain ⟨m, ρ, st, s, r, p⟩ := w
    rw [evS] at p
    exact p
theorem sndSs (hW : WOk W cc) (L : Lv W k) : ∀ (a : ISs) {scp : Scope} {E : XK} {X : Cx} {s : List Stmt}, chkSs cc Ns scp a s = true → SOk W Ns scp k E X → PSs X s (tS W E (evSs (W.cl k) W.F a))
  | .nil, scp, E, X, s, h, hX => by
    unfold chkSs at h
    split at h
    · refine PSs.weak pss_nil fun D σ H w => ?_
      obtain ⟨m, ρ, st, s, r, p⟩ := w
      rw [evSs] at p
      exact p σ H m Ext.refl s r
    · cases h
  | .cons a r, scp, E, X, s, h, hX => by
    unfold chkSs at h
    split at h
    · obtain ⟨h1, h2⟩ := bex h
      refine PSs.weak (pss_cons (sndS hW L a h1 hX) (sndSs hW L r h2 hX)) fun D σ H w => ?_
      obtain ⟨m, ρ, st, s, rr, p⟩ := w
      rw [evSs] at p
      refine ⟨m, ρ, st, s, rr, ?_⟩
      have q := p.then
      -- what stands behind is the rest's reading
      cases hr : evS (W.cl k) W.F a ρ st with
      | ok f ρ1 st1 =>
        rw [hr] at q
        cases f with
        | nx =>
          intro σ' H' m' e' s' r'
          obtain ⟨m2, ρ2, st2, e2, s2, r2, p2⟩ := q σ' H' m' e' s' r'
          exact ⟨m2, ρ2, st2, s2, r2, p2⟩
        | bk => exact q
        | ct => exact q
        | rt d => exact q
      | exc x ρ1 st1 => rw [hr] at q; exact q
      | stuck => rw [hr] at q; exact q
    · cases h
end

/-! ### what a call forgets -/
mutual
theorem Rp.cl {K : PySem.W.Frag} {H : Hp} {m : List Addr} : ∀ {d : D} {v : V}, Rp K H m d v → clD m.length d = true
  | .non, v, h => rfl
  | .bl _, v, h => rfl
  | .int _, v, h => rfl
  | .str _, v, h => rfl
  | .tup ds, v, h => by
    obtain ⟨a, vs, _, _, h⟩ := h.tup_ref
    rw [clD]; exact Rps.cl h
  | .loc n, v, h => by
    rw [Rp] at h
    obtain ⟨a, h, _⟩ := h
    rw [clD]; exact decide_eq_true (List.getElem?_eq_some_iff.mp h).1
  | .fl ds, v, h => by
    rw [Rp] at h
    obtain ⟨a, vs, _, _, h⟩ := h
    rw [clD]; exact Rps.cl h
theorem Rps.cl {K : PySem.W.Frag} {H : Hp} {m : List Addr} : ∀ {d : List D} {v : List V}, Rps K H m d v → clDs m.length d = true
  | [], v, h => rfl
  | d :: ds, v, h => by
    rw [Rps] at h
    obtain ⟨u, us, _, h1, h2⟩ := h
    rw [clDs, Rp.cl h1, Rps.cl h2]; rfl
end
mutual
theorem Rp.down {K : PySem.W.Frag} {H : Hp} {m l : List Addr} : ∀ {d : D} {v : V}, clD m.length d = true → Rp K H (m ++ l) d v → Rp K H m d v
  | .non, v, _, h => by rw [Rp] at h ⊢; exact h
  | .bl _, v, _, h => by rw [Rp] at h ⊢; exact h
  | .int _, v, _, h => by rw [Rp] at h ⊢; exact h
  | .str _, v, _, h => by rw [Rp] at h ⊢; exact h
  | .tup ds, v, c, h => by
    rw [Rp] at h ⊢
    rw [clD] at c
    obtain ⟨a, vs, e, h1, h2⟩ := h
    exact ⟨a, vs, e, h1, Rps.down c h2⟩
  | .loc n, v, c, h => by
    rw [Rp] at h ⊢
    rw [clD, decide_eq_true_eq] at c
    obtain ⟨a, h1, e⟩ := h
    rw [List.getElem?_append_left c] at h1
    exact ⟨a, h1, e⟩
  | .fl ds, v, c, h => by
    rw [Rp] at h ⊢
    rw [clD] at c
    obtain ⟨a, vs, e, h1, h2⟩ := h
    exact ⟨a, vs, e, h1, Rps.down c h2⟩
theorem Rps.down {K : PySem.W.Frag} {H : Hp} {m l : List Addr} : ∀ {d : List D} {v : List V}, clDs m.length d = true → Rps K H (m ++ l) d v → Rps K H m d v
  | [], v, _, h => by rw [Rps] at h ⊢; exact h
  | d :: ds, v, c, h => by
    rw [clDs, Bool.and_eq_true] at c
    rw [Rps] at h ⊢
    obtain ⟨u, us, e, h1, h2⟩ := h
    exact ⟨u, us, e, Rp.down c.1 h1, Rps.down c.2 h2⟩
end
mutual
theorem clD_mono {n n' : Nat} (h : n ≤ n') : ∀ {d : D}, clD n d = true → clD n' d = true
  | .non, _ => rfl
  | .bl _, _ => rfl
  | .int _, _ => rfl
  | .str _, _ => rfl
  | .tup ds, c => by rw [clD] at c ⊢; exact clDs_mono h c
  | .loc k, c => by rw [clD, decide_eq_true_eq] at c ⊢; omega
  | .fl ds, c => by rw [clD] at c ⊢; exact clDs_mono h c
theorem clDs_mono {n n' : Nat} (h : n ≤ n') : ∀ {d : List D}, clDs n d = true → clDs n' d = true
  | [], _ => rfl
  | d :: ds, c => by
    rw [clDs, Bool.and_eq_true] at c ⊢
    exact ⟨clD_mono h c.1, clDs_mono h c.2⟩
end
theorem Dent.down {H : Hp} {m l : List Addr} : ∀ {kvs : List (D × D)} {xs : NdX}, (clDs m.length (kvs.map (·.1)) && clDs m.length (kvs.map (·.2))) = true → Dent W.K H (m ++ l) kvs xs → Dent W.K H m kvs xs
  | [], xs, _, h => h
  | (k, d) :: r, xs, c, h => by
    simp only [List.map_cons, clDs, Bool.and_eq_true] at c
    obtain ⟨nk, ka, u, v, xs', e, h2, h3, h4, h5, h6, h7⟩ := h
    exact ⟨nk, ka, u, v, xs', e, h2, h3, Rp.down c.1.1 h4, h5, Rp.down c.2.1 h6, Dent.down (by rw [c.1.2, c.2.2]; rfl) h7⟩
theorem Dkt.down {H : Hp} {m l : List Addr} : ∀ {kvs : List (D × D)} {xs : List (Key × V)}, (clDs m.length (kvs.map (·.1)) && clDs m.length (kvs.map (·.2))) = true → Dkt W.K H (m ++ l) kvs xs → Dkt W.K H m kvs xs
  | [], xs, _, h => h
  | (k, d) :: r, xs, c, h => by
    simp only [List.map_cons, clDs, Bool.and_eq_true] at c
    obtain ⟨ky, v, xs', e, h2, h6, h7⟩ := h
    exact ⟨ky, v, xs', e, h2, Rp.down c.2.1 h6, Dkt.down (by rw [c.1.2, c.2.2]; rfl) h7⟩
theorem Dent.cl {H : Hp} {m : List Addr} : ∀ {kvs : List (D × D)} {xs : NdX}, Dent W.K H m kvs xs → (clDs m.length (kvs.map (·.1)) && clDs m.length (kvs.map (·.2))) = true
  | [], xs, h => rfl
  | (k, d) :: r, xs, h => by
    obtain ⟨nk, ka, u, v, xs', e, h2, h3, h4, h5, h6, h7⟩ := h
    have ih := Dent.cl h7
    rw [Bool.and_eq_true] at ih
    simp only [List.map_cons, clDs, Bool.and_eq_true]
    exact ⟨⟨Rp.cl h4, ih.1⟩, Rp.cl h6, ih.2⟩
theorem Dkt.cl {H : Hp} {m : List Addr} : ∀ {kvs : List (D × D)} {xs : List (Key × V)}, Dkt W.K H m kvs xs → (clDs m.length (kvs.map (·.1)) && clDs m.length (kvs.map (·.2))) = true
  | [], xs, h => rfl
  | (k, d) :: r, xs, h => by
    obtain ⟨ky, v, xs', e, h2, h6, h7⟩ := h
    have ih := Dkt.cl h7
    rw [Bool.and_eq_true] at ih
    simp only [List.map_cons, clDs, Bool.and_eq_true]
    refine ⟨⟨?_, ih.1⟩, Rp.cl h6, ih.2⟩
    cases k <;> simp [kyD] at h2 <;> rfl
section
variable {K : PySem.W.Frag} {H : Hp} {m1 m2 : List Addr} {g : Nat → Nat} {p : Nat → Bool}
mutual
theorem Rp.rn (hg : ∀ k a, p k = true → m1[k]? = some a → m2[g k]? = some a) : ∀ {d : D} {v : V}, (locsD d).all p = true → Rp K H m1 d v → Rp K H m2 (rnD g d) v
  | .non, v, _, h => by rw [rnD]; rw [Rp] at h ⊢; exact h
  | .bl _, v, _, h => by rw [rnD]; rw [Rp] at h ⊢; exact h
  | .int _, v, _, h => by rw [rnD]; rw [Rp] at h ⊢; exact h
  | .str _, v, _, h => by rw [rnD]; rw [Rp] at h ⊢; exact h
  | .tup ds, v, c, h => by
    rw [locsD] at c
    rw [rnD]
    rw [Rp] at h ⊢
    obtain ⟨a, vs, e, h1, h2⟩ := h
    exact ⟨a, vs, e, h1, Rps.rn hg c h2⟩
  | .loc n, v, c, h => by
    rw [rnD]
    rw [Rp] at h ⊢
    obtain ⟨a, h1, e⟩ := h
    exact ⟨a, hg n a (by simpa [locsD] using c) h1, e⟩
  | .fl ds, v, c, h => by
    rw [locsD] at c
    rw [rnD]
    rw [Rp] at h ⊢
    obtain ⟨a, vs, e, h1, h2⟩ := h
    exact ⟨a, vs, e, h1, Rps.rn hg c h2⟩
theorem Rps.rn (hg : ∀ k a, p k = true → m1[k]? = some a → m2[g k]? = some a) : ∀ {d : List D} {v : List V}, (locsDs d).all p = true → Rps K H m1 d v → Rps K H m2 (rnDs g d) v
  | [], v, _, h => by rw [rnDs]; rw [Rps] at h ⊢; exact h
  | d :: ds, v, c, h => by
    rw [locsDs, List.all_append, Bool.and_eq_true] at c
    rw [rnDs]
    rw [Rps] at h ⊢
    obtain ⟨u, us, e, h1, h2⟩ := h
    exact ⟨u, us, e, Rp.rn hg c.1 h1, Rps.rn hg c.2 h2⟩
end
mutual
theorem rnD_free : ∀ {d : D}, locsD d = [] → rnD g d = d
  | .non, _ => rfl
  | .bl _, _ => rfl
  | .int _, _ => rfl
  | .str _, _ => rfl
  | .tup ds, c => by rw [locsD] at c; rw [rnD, rnDs_free c]
  | .loc k, c => by simp [locsD] at c
  | .fl ds, c => by rw [locsD] at c; rw [rnD, rnDs_free c]
theorem rnDs_free : ∀ {d : List D}, locsDs d = [] → rnDs g d = d
  | [], _ => rfl
  | d :: ds, c => by
    rw [locsDs, List.append_eq_nil_iff] at c
    rw [rnDs, rnD_free c.1, rnDs_free c.2]
end
mutual
theorem nkD_locs : ∀ {d : D} {k : NestedKey}, nkD d = some k → locsD d = []
  | .non, _, _ => rfl
  | .int _, _, _ => rfl
  | .str _, _, _ => rfl
  | .tup ds, k, h => by
    rw [nkD] at h
    rw [locsD]
    split at h
    · rename_i ks e; exact nkDs_locs e
    · cases h
  | .bl _, _, h => by simp [nkD] at h
  | .loc _, _, h => by simp [nkD] at h
  | .fl _, _, h => by simp [nkD] at h
theorem nkDs_locs : ∀ {d : List D} {k : List NestedKey}, nkDs d = some k → locsDs d = []
  | [], _, _ => rfl
  | d :: ds, k, h => by
    rw [nkDs] at h
    split at h
    · rename_i k ks e1 e2
      rw [locsDs, nkD_locs e1, nkDs_locs e2]; rfl
    · cases h
end
theorem Rp.free {d : D} {v : V} (c : locsD d = []) (h : Rp K H m1 d v) : Rp K H m2 d v := by
  have := Rp.rn (g := id) (p := fun _ => false) (m1 := m1) (m2 := m2) (fun k a z => by cases z) (by rw [c]; rfl) h
  rwa [rnD_free c] at this
end
theorem rnDs_map (g : Nat → Nat) : ∀ ds : List D, rnDs g ds = ds.map (rnD g)
  | [] => rfl
  | d :: ds => by rw [rnDs, rnDs_map g ds]; rfl
theorem Dent.rn {H : Hp} {m1 m2 : List Addr} {g : Nat → Nat} {p : Nat → Bool} (hg : ∀ k a, p k = true → m1[k]? = some a → m2[g k]? = some a) : ∀ {kvs : List (D × D)} {xs : NdX}, (locsDs (kvs.map (·.2))).all p = true → Dent W.K H m1 kvs xs → Dent W.K H m2 (kvs.map fun q => (q.1, rnD g q.2)) xs
  | [], xs, _, h => h
  | (k, d) :: r, xs, c, h => by
    obtain ⟨nk, ka, u, v, xs', e, h2, h3, h4, h5, h6, h7⟩ := h
    rw [List.map_cons, locsDs, List.all_append, Bool.and_eq_true] at c
    exact ⟨nk, ka, u, v, xs', e, h2, h3, h4.free (nkD_locs h2), h5, h6.rn hg c.1, Dent.rn hg c.2 h7⟩
theorem Dkt.rn {H : Hp} {m1 m2 : List Addr} {g : Nat → Nat} {p : Nat → Bool} (hg : ∀ k a, p k = true → m1[k]? = some a → m2[g k]? = some a) : ∀ {kvs : List (D × D)} {xs : List (Key × V)}, (locsDs (kvs.map (·.2))).all p = true → Dkt W.K H m1 kvs xs → Dkt W.K H m2 (kvs.map fun q => (q.1, rnD g q.2)) xs
  | [], xs, _, h => h
  | (k, d) :: r, xs, c, h => by
    obtain ⟨ky, v, xs', e, h2, h6, h7⟩ := h
    rw [List.map_cons, locsDs, List.all_append, Bool.and_eq_true] at c
    exact ⟨ky, v, xs', e, h2, h6.rn hg c.1, Dkt.rn hg c.2 h7⟩
theorem CellOk.rn {H : Hp} {m1 m2 : List Addr} {g : Nat → Nat} {p : Nat → Bool} (hg : ∀ k a, p k = true → m1[k]? = some a → m2[g k]? = some a) {a : Addr} {c : Cell} (hc : (locsC c).all p = true) (h : CellOk W H m1 a c) : CellOk W H m2 a (rnC g c) := by
  cases c with
  | lst ds => obtain ⟨vs, h1, h2⟩ := h; exact ⟨vs, h1, h2.rn hg hc⟩
  | ins c fs =>
    obtain ⟨dx, gs, h0, h1, h2, h3⟩ := h
    refine ⟨dx, gs, h0, h1, ?_, ?_⟩
    · rw [h2, List.map_map]; rfl
    · have := h3.rn hg hc
      rw [rnDs_map, List.map_map] at this
      rw [List.map_map]
      exact this
  | dct kvs => obtain ⟨xs, h1, h2⟩ := h; exact ⟨xs, h1, h2.rn hg hc⟩
  | dck kvs => obtain ⟨xs, h1, h2⟩ := h; exact ⟨xs, h1, h2.rn hg hc⟩
/-- what stood, behind a call -/
theorem old_cells {m l : List Addr} {H H' : Hp} {st0 st : Sto} (s0 : Sim W H m st0) (s' : Sim W H' (m ++ l) st) (hk : OldOk st0 st) : st0.length ≤ st.length ∧ ∀ (i : Nat) (c : Cell) (a : Addr), st[i]? = some c → m[i]? = some a → CellOk W H' m a c := by
  have hle : st0.length ≤ st.length := by
    have h1 := s'.len
    rw [List.length_append, s0.len] at h1
    omega
  have dn : ∀ {ds : List D} {vs : List V}, clDs m.length ds = true → Rps W.K H' (m ++ l) ds vs → Rps W.K H' m ds vs := fun c r => Rps.down c r
  have sc : ∀ {c : Cell} {a : Addr}, clC m.length c = true → CellOk W H' (m ++ l) a c → CellOk W H' m a c := fun {c a} hc q => by
    cases c with
    | lst ds =>
      obtain ⟨vs, h1, h2⟩ := q
      exact ⟨vs, h1, dn hc h2⟩
    | ins c fs =>
      obtain ⟨dx, gs, h0, h1, h2, h3⟩ := q
      exact ⟨dx, gs, h0, h1, h2, dn hc h3⟩
    | dct kvs =>
      obtain ⟨xs, h1, h2⟩ := q
      exact ⟨xs, h1, h2.down hc⟩
    | dck kvs =>
      obtain ⟨xs, h1, h2⟩ := q
      exact ⟨xs, h1, h2.down hc⟩
  have cl0 : ∀ {c : Cell} {a : Addr}, CellOk W H m a c → clC m.length c = true := fun {c a} q => by
    cases c with
    | lst ds => obtain ⟨vs, _, h2⟩ := q; exact Rps.cl h2
    | ins c fs => obtain ⟨dx, gs, _, _, _, h3⟩ := q; exact Rps.cl h3
    | dct kvs => obtain ⟨xs, h1, h2⟩ := q; exact h2.cl
    | dck kvs => obtain ⟨xs, h1, h2⟩ := q; exact h2.cl
  refine ⟨hle, fun i c a h1 h2 => ?_⟩
  have hi : i < st0.length := by
    have := (List.getElem?_eq_some_iff.mp h2).1
    rw [s0.len] at this; exact this
  have q := s'.ok i c a h1 (by rw [List.getElem?_append_left (by rw [s0.len]; exact hi)]; exact h2)
  refine sc ?_ q
  rcases hk i hi with z | z
  · rw [h1] at z
    exact cl0 (s0.ok i c a z.symm h2)
  · rw [h1] at z
    have z' : clC st0.length c = true := by simpa using z
    rw [s0.len]; exact z'
theorem Ext.cut {m l l' : List Addr} {H H' : Hp} (e : Ext m (m ++ l) H H') (h : ∀ a ∈ l', a ∈ l) : Ext m (m ++ l') H H' := ⟨⟨l', rfl⟩, fun a o ha hn => by
  obtain ⟨h1, h2⟩ := e.keep a o ha hn
  refine ⟨h1, fun z => h2 ?_⟩
  rcases List.mem_append.mp z with z | z
  · exact List.mem_append.mpr (.inl z)
  · exact List.mem_append.mpr (.inr (h a z))⟩
theorem CellOk.wide {H : Hp} {m l : List Addr} {a : Addr} {c : Cell} (h : CellOk W H m a c) : CellOk W H (m ++ l) a c := by
  have hm : ∀ (n : Nat) (a : Addr), m[n]? = some a → (m ++ l)[n]? = some a := fun n a z => by
    rw [List.getElem?_append_left (List.getElem?_eq_some_iff.mp z).1]; exact z
  cases c with
  | lst ds => obtain ⟨us, h3, h4⟩ := h; exact ⟨us, h3, h4.mono (fun _ _ z => z) (fun _ _ z => z) hm⟩
  | ins c fs => obtain ⟨dx, gs, hc, h3, h4⟩ := h; exact ⟨dx, gs, hc, h3, h4.1, h4.2.mono (fun _ _ z => z) (fun _ _ z => z) hm⟩
  | dct kvs => obtain ⟨xs, h3, h4⟩ := h; exact ⟨xs, h3, h4.mono (fun _ _ z => z) (fun _ _ z => z) hm⟩
  | dck kvs => obtain ⟨xs, h3, h4⟩ := h; exact ⟨xs, h3, h4.mono (fun _ _ z => z) (fun _ _ z => z) hm⟩
theorem finish_ok {E : XK} {m : List Addr} {H : Hp} {st0 : Sto} {r : R D} {Q : VK} (s0 : Sim W H m st0) (h : Pg W E m H (finish st0 r) (kD W Q)) : Pg W E m H r (kD W Q) := by
  cases r with
  | stuck => exact h
  | exc e st =>
    unfold finish at h
    dsimp only at h
    by_cases hc : exC e = true ∧ OldOk st0 st
    · rw [if_pos hc] at h
      obtain ⟨hd, hk⟩ := hc
      intro dx H' m' ee s' hx
      obtain ⟨l, rfl⟩ := ee.pre
      obtain ⟨hle, old⟩ := old_cells s0 s' hk
      have s2 : Sim W H' m (st.take st0.length) := by
        refine ⟨by rw [List.length_take, s0.len]; omega, s0.nd, fun i c a h1 h2 => ?_⟩
        have hi : i < st0.length := by
          have := (List.getElem?_eq_some_iff.mp h2).1
          rw [s0.len] at this; exact this
        rw [List.getElem?_take_of_lt hi] at h1
        exact old i c a h1 h2
      have e2 := Ext.cut (l' := []) ee (by simp)
      rw [List.append_nil] at e2
      refine h dx H' m e2 s2 ?_
      unfold ExR at hx ⊢
      unfold exC at hd
      cases hf : e.f with
      | none => rw [hf] at hx; exact hx
      | some fd =>
        obtain ⟨f, d⟩ := fd
        rw [hf] at hx hd
        obtain ⟨a, v, h1, h2, h3⟩ := hx
        exact ⟨a, v, h1, h2, Rp.down (clD_mono (Nat.zero_le _) hd) h3⟩
    · rw [if_neg hc] at h; exact h
  | ok d st =>
    unfold finish at h
    dsimp only at h
    by_cases hk : OldOk st0 st
    · rw [if_pos hk] at h
      generalize reach st0.length st 40 (locsD d) [] = L at h
      unfold gcD at h
      by_cases hc : GcOk st0.length L d st
      · rw [if_pos hc] at h
        obtain ⟨c1, c2, c3⟩ := hc
        intro H' m' e s' v rv
        obtain ⟨l, rfl⟩ := e.pre
        obtain ⟨hle, old⟩ := old_cells s0 s' hk
        have hm0 : m.length = st0.length := s0.len
        have hm1 : (m ++ l).length = st.length := s'.len
        let l' : List Addr := L.map fun k => ((m ++ l)[k]?).getD 0
        have inL : ∀ k ∈ L, ∃ a c, (m ++ l)[k]? = some a ∧ a ∈ l ∧ st[k]? = some c ∧ (locsC c).all (okN st0.length L) = true := fun k hk => by
          obtain ⟨h1, h2⟩ := c2 k hk
          cases hs : st[k]? with
          | none => rw [hs] at h2; cases h2
          | some c =>
            rw [hs] at h2
            have hl : k < (m ++ l).length := by rw [hm1]; exact (List.getElem?_eq_some_iff.mp hs).1
            refine ⟨(m ++ l)[k], c, List.getElem?_eq_getElem hl, ?_, rfl, by simpa using h2⟩
            rw [List.getElem_append_right (by omega)]
            exact List.getElem_mem _
        have e2 : Ext m (m ++ l') H H' := Ext.cut e fun a ha => by
          obtain ⟨k, hk, rfl⟩ := List.mem_map.mp ha
          obtain ⟨a, c, h1, h2, _⟩ := inL k hk
          rw [h1]; exact h2
        have hg : ∀ k a, okN st0.length L k = true → (m ++ l)[k]? = some a → (m ++ l')[newN st0.length L k]? = some a := fun k a hok hka => by
          unfold newN
          by_cases hlt : k < st0.length
          · rw [if_pos hlt, List.getElem?_append_left (by omega)]
            rw [List.getElem?_append_left (by omega)] at hka
            exact hka
          · rw [if_neg hlt]
            have hkL : k ∈ L := by
              unfold okN at hok
              rw [Bool.or_eq_true, decide_eq_true_eq, decide_eq_true_eq] at hok
              exact hok.resolve_left hlt
            rw [List.getElem?_append_right (by omega), hm0, Nat.add_sub_cancel_left, List.getElem?_map, List.getElem?_eq_getElem (List.idxOf_lt_length_iff.mpr hkL), List.getElem_idxOf]
            rw [Option.map_some, hka]; rfl
        have s2 : Sim W H' (m ++ l') (st.take st0.length ++ L.map (pickC st0.length L st)) := by
          refine ⟨by simp [l', hm0]; omega, ?_, fun i c a h1 h2 => ?_⟩
          · have nd := s'.nd
            rw [List.nodup_append] at nd ⊢
            refine ⟨nd.1, ?_, fun a ha b hb => ?_⟩
            · refine List.pairwise_map.mpr (c1.imp_of_mem fun {x y} hx hy hne hxy => hne ?_)
              obtain ⟨a, _, h1, _⟩ := inL x hx
              obtain ⟨b, _, g1, _⟩ := inL y hy
              rw [h1, g1] at hxy
              have hab : a = b := hxy
              subst hab
              obtain ⟨p1, p2⟩ := List.getElem?_eq_some_iff.mp h1
              obtain ⟨q1, q2⟩ := List.getElem?_eq_some_iff.mp g1
              exact (List.getElem_inj s'.nd).mp (p2.trans q2.symm)
            · obtain ⟨k, hk, rfl⟩ := List.mem_map.mp hb
              obtain ⟨b, c, h1, h2, _⟩ := inL k hk
              rw [h1]
              exact nd.2.2 a ha b h2
          · by_cases hi : i < st0.length
            · rw [List.getElem?_append_left (by rw [List.length_take]; omega), List.getElem?_take_of_lt hi] at h1
              rw [List.getElem?_append_left (by omega)] at h2
              exact (old i c a h1 h2).wide
            · rw [List.getElem?_append_right (by rw [List.length_take]; omega), List.length_take, Nat.min_eq_left hle, List.getElem?_map] at h1
              rw [List.getElem?_append_right (by omega), hm0, List.getElem?_map] at h2
              cases hj : L[i - st0.length]? with
              | none => rw [hj] at h1; cases h1
              | some k =>
                rw [hj] at h1 h2
                obtain ⟨b, c', g1, _, g3, g4⟩ := inL k (List.mem_of_getElem? hj)
                rw [Option.map_some, Option.some.injEq] at h1 h2
                subst h1
                rw [g1] at h2
                have hab : b = a := h2
                subst hab
                unfold pickC
                rw [g3]
                exact (s'.ok k c' b g3 g1).rn hg g4
        exact h.go e2 s2 v (rv.rn hg c3)
      · rw [if_neg hc] at h; exact h
    · rw [if_neg hk] at h; exact h
/-! ### a def -/
/-- a def (or a method) that stands in the text -/
structure DefOk (W : Wd) (cc : CC) (i : Nat) (fi : FnIR) : Prop where
  ex : ∃ (x qual : Str) (st : Stmt) (Ns : List Str), Fun W.K x qual st (W.fa i) (W.fd i) ∧ FnScope Ns (W.ps i) (defScope st) ∧ chkSs cc Ns (defScope st) fi.body (defBody st) = true ∧ Ns.length = fi.nl ∧ (W.ps i).length = fi.np ∧ fi.np ≤ fi.nl
theorem lv_succ (hW : WOk W cc) (hd : ∀ (i : Nat) (fi : FnIR), W.pr.fns[i]? = some fi → DefOk W cc i fi) (L : Lv W k) : Lv W (k + 1) := by
  intro i fi hi
  obtain ⟨x, qual, st, Ns, F, S, hc, hl, hp, hle⟩ := (hd i fi hi).ex
  refine Fun.okX (k := 2 * k + 1) F S (fun vs H Q E h => ?_) (fun cdv A outer s H vs Q E hr h => ?_)
  · obtain ⟨m, st, ds, _, _, h, _⟩ := h
    exact h
  obtain ⟨m, sto, ds, sm, rs, hlen, p⟩ := h
  have hX : SOk W Ns (defScope st) k E (cxOf (L2.CX W.P W.w) W.P W.w W.K W.mg W.base Ns qual (defScope st) (W.fa i) cdv A outer s H E) :=
    ⟨⟨rfl, rfl, rfl, rfl, rfl, rfl, S.nd, rfl, rfl, hr, passes_call (takes_of rfl rfl rfl rfl) fun _ _ _ _ h => h⟩, rfl, S.kind, passes_of rfl⟩
  refine ⟨_, sndSs hW L fi.body hc hX, ?_⟩
  have p' : Pg W E m H (finish sto (runB (evSs (W.cl k) W.F fi.body (ds.map some ++ List.replicate (fi.nl - fi.np) none) sto))) (kD W Q) := by
    have p : Pg W E m H (W.pr.step W.F (W.cl k) i ds sto) (kD W Q) := p
    unfold Prog.step at p
    rw [hi] at p
    exact p.ite.2
  have q := finish_ok sm p'
  have hdl : ds.length = fi.np := by rw [← rs.len, hlen, hp]
  refine ⟨m, ds.map some ++ List.replicate (fi.nl - fi.np) none, sto, sm, ⟨?_, fun j d hj => ?_⟩, ?_⟩
  · have e1 := rs.len
    unfold L2.start
    simp only [List.length_append, List.length_map, List.length_replicate]
    omega
  · unfold L2.start
    by_cases hjl : j < ds.length
    · rw [List.getElem?_append_left (by simpa using hjl), List.getElem?_map] at hj
      cases hq : ds[j]? with
      | none => rw [hq] at hj; cases hj
      | some d' =>
        rw [hq] at hj
        cases hj
        obtain ⟨v, hv, rv⟩ := rs.get hq
        have hjv : j < vs.length := (List.getElem?_eq_some_iff.mp hv).1
        refine ⟨v, ?_, rv⟩
        rw [List.getElem?_append_left (by simpa using hjv), List.getElem?_map, hv]
        rfl
    · rw [List.getElem?_append_right (by simpa using Nat.le_of_not_lt hjl)] at hj
      rw [List.getElem?_replicate] at hj
      split at hj
      · cases hj
      · cases hj
  · generalize evSs (W.cl k) W.F fi.body (ds.map some ++ List.replicate (fi.nl - fi.np) none) sto = r at q
    cases r with
    | ok f ρ st1 => cases f with
      | nx => exact fun σ' H' m' e' s' _ => q H' m' e' s' _ (by rw [Rp])
      | bk => exact q.elim
      | ct => exact q.elim
      | rt d => exact fun v H' m' e' s' rv => q H' m' e' s' v rv
    | exc x ρ st1 => exact q
    | stuck => exact q.elim
/-- all levels -/
theorem lv_all (hW : WOk W cc) (hd : ∀ (i : Nat) (fi : FnIR), W.pr.fns[i]? = some fi → DefOk W cc i fi) : ∀ k, Lv W k
  | 0 => fun i fi hi => by
    have no : ∀ vs H Q E, ¬ spE W (W.pr.call W.F 0) i vs H Q E := fun vs H Q E h => by
      obtain ⟨_, _, _, _, _, _, p⟩ := h
      exact p
    exact ⟨fun vs H Q E h => absurd h (no vs H Q E), fun A outer s H args us vs Q E _ _ _ _ h => absurd h (no vs H Q E)⟩
  | k + 1 => lv_succ hW hd (lv_all hW hd k)
/-- THE LAW: it promises True, if its evaluation says so -/
def spLaw (K : PySem.W.Frag) : Sp := fun vs H Q _ => ∃ (a : Addr) (ns : List Int), vs = [.ref a] ∧ Only H ∧ SqL K H a (ns.map V.int) ∧ ns.length ≤ 63 ∧ ∀ H', Q (.bl true) H'
theorem ints_Rps {K : PySem.W.Frag} {H : Hp} {m : List Addr} : ∀ ns : List Int, Rps K H m (ns.map D.int) (ns.map V.int)
  | [] => by simp [Rps]
  | n :: ns => by
    simp only [List.map_cons]; rw [Rps]
    exact ⟨_, _, rfl, by rw [Rp], ints_Rps ns⟩
theorem law_ok {i : Nat} {fi : FnIR} (L : Lv W k) (hi : W.pr.fns[i]? = some fi) (hp : (W.ps i).length = 1) (h : ∀ ns : List Int, ns.length ≤ 63 → ∃ st, W.pr.call W.F k i [.fl (ns.map D.int)] [] = .ok (.bl true) st) :
    FnOk W.P W.w W.K W.mg W.base (L2.CX W.P W.w) (2 * k) (W.fa i) (W.fd i) (W.ps i) (spLaw W.K) := by
  refine (L i fi hi).imp fun vs H Q E hs => ?_
  obtain ⟨a, ns, rfl, ho, hq, hl, q⟩ := hs
  obtain ⟨st, hst⟩ := h ns hl
  refine ⟨[], [], [.fl (ns.map D.int)], ⟨rfl, List.nodup_nil, fun i c a h => by simp at h⟩, ?_, by rw [hp]; rfl, ?_⟩
  · rw [Rps]
    refine ⟨.ref a, [], rfl, ?_, by rw [Rps]⟩
    rw [Rp]
    refine ⟨a, _, rfl, ?_, ints_Rps ns⟩
    rcases hq with (hq | ⟨o, hq⟩) | hq
    · rcases ho a with z | ⟨o, xs, z⟩
      · rw [hq] at z; cases z
      · rw [hq] at z; cases z
    · exact .inl ⟨o, hq⟩
    · exact .inr hq
  · rw [hst]
    intro H' m' _ _ v rv
    rw [Rp] at rv; subst rv
    exact q H'
end
end Z
/-! Z: evaluation by simp: rows common to all laws -/
namespace Z
@[simp] theorem R_bind_ok {α β : Type} (a : α) (st : Sto) (f : α → Sto → R β) : (R.ok a st).bind f = f a st := (rfl)
@[simp] theorem R_bind_stuck {α β : Type} (f : α → Sto → R β) : (R.stuck : R α).bind f = .stuck := (rfl)
@[simp] theorem R_sbind_ok {α : Type} (ρ : Env) (a : α) (st : Sto) (f : α → Sto → SR) : (R.ok a st).sbind ρ f = f a st := (rfl)
@[simp] theorem R_noex_ok {α : Type} (a : α) (st : Sto) : (R.ok a st).noex = .ok a st := (rfl)
@[simp] theorem bOf_bl (st : Sto) (b : Bool) : bOf st (.bl b) = .ok b st := (rfl)
@[simp] theorem iOf_int (st : Sto) (b : Int) : iOf st (.int b) = .ok b st := (rfl)
@[simp] theorem ofO_some {α : Type} (st : Sto) (a : α) : ofO st (some a) = .ok a st := (rfl)
@[simp] theorem SR_then_nx (ρ : Env) (st : Sto) (f : Env → Sto → SR) : (SR.ok .nx ρ st).then f = f ρ st := (rfl)
@[simp] theorem SR_then_rt (d : D) (ρ : Env) (st : Sto) (f : Env → Sto → SR) : (SR.ok (.rt d) ρ st).then f = .ok (.rt d) ρ st := (rfl)
@[simp] theorem SR_turn_nx (ρ : Env) (st : Sto) (f : Env → Sto → SR) : (SR.ok .nx ρ st).turn f = f ρ st := (rfl)
@[simp] theorem SR_turn_rt (d : D) (ρ : Env) (st : Sto) (f : Env → Sto → SR) : (SR.ok (.rt d) ρ st).turn f = .ok (.rt d) ρ st := (rfl)
@[simp] theorem runB_nx (ρ : Env) (st : Sto) : runB (.ok .nx ρ st) = .ok .non st := (rfl)
@[simp] theorem runB_rt (d : D) (ρ : Env) (st : Sto) : runB (.ok (.rt d) ρ st) = .ok d st := (rfl)
@[simp] theorem cl_call (pr : Prog) (F k : Nat) : (pr.cl F k).call = pr.call F k := (rfl)
@[simp] theorem cl_ini (pr : Prog) (F k : Nat) : (pr.cl F k).ini = pr.ini := (rfl)
@[simp] theorem cl_meth (pr : Prog) (F k : Nat) : (pr.cl F k).meth = pr.meth := (rfl)
theorem call_eq (pr : Prog) (F k : Nat) {f : Nat} {ds : List D} {st : Sto} {fi : FnIR} (h : pr.fns[f]? = some fi) (hn : ds.length = fi.np) :
    pr.call F (k + 1) f ds st = finish st (runB (evSs (pr.cl F k) F fi.body (ds.map some ++ List.replicate (fi.nl - fi.np) none) st)) := by
  show Prog.step pr F _ f ds st = _
  unfold Prog.step
  rw [h]
  simp only
  rw [if_pos hn]
  rfl
theorem reach_old {n0 : Nat} {st : Sto} : ∀ (f : Nat) (todo acc : List Nat), todo.all (fun k => decide (k < n0)) = true → reach n0 st f todo acc = acc
  | 0, _, _, _ => rfl
  | _ + 1, [], _, _ => rfl
  | f + 1, k :: todo, acc, h => by
    rw [List.all_cons, Bool.and_eq_true, decide_eq_true_eq] at h
    rw [reach, if_pos (.inl h.1)]
    exact reach_old f todo acc h.2
mutual
theorem rnD_id {g : Nat → Nat} {p : Nat → Bool} (hg : ∀ k, p k = true → g k = k) : ∀ {d : D}, (locsD d).all p = true → rnD g d = d
  | .non, _ => rfl
  | .bl _, _ => rfl
  | .int _, _ => rfl
  | .str _, _ => rfl
  | .tup ds, c => by rw [locsD] at c; rw [rnD, rnDs_id hg c]
  | .loc k, c => by rw [rnD, hg k (by simpa [locsD] using c)]
  | .fl ds, c => by rw [locsD] at c; rw [rnD, rnDs_id hg c]
theorem rnDs_id {g : Nat → Nat} {p : Nat → Bool} (hg : ∀ k, p k = true → g k = k) : ∀ {d : List D}, (locsDs d).all p = true → rnDs g d = d
  | [], _ => rfl
  | d :: ds, c => by
    rw [locsDs, List.all_append, Bool.and_eq_true] at c
    rw [rnDs, rnD_id hg c.1, rnDs_id hg c.2]
end
theorem rnDs_mp (g : Nat → Nat) : ∀ ds : List D, rnDs g ds = ds.map (rnD g)
  | [] => rfl
  | d :: ds => by rw [rnDs, rnDs_mp g ds]; rfl
theorem kv_id {α : Type} {g : Nat → Nat} {p : Nat → Bool} (hg : ∀ k, p k = true → g k = k) : ∀ {fs : List (α × D)}, (locsDs (fs.map (·.2))).all p = true → fs.map (fun q => (q.1, rnD g q.2)) = fs
  | [], _ => rfl
  | (a, d) :: r, c => by
    rw [List.map_cons, locsDs, List.all_append, Bool.and_eq_true] at c
    rw [List.map_cons, kv_id hg c.2, rnD_id hg c.1]
theorem rnC_id {g : Nat → Nat} {p : Nat → Bool} (hg : ∀ k, p k = true → g k = k) {c : Cell} (h : (locsC c).all p = true) : rnC g c = c := by
  cases c with
  | lst xs => show Cell.lst (rnDs g xs) = _; rw [rnDs_id hg h]
  | ins c fs => show Cell.ins c (fs.map _) = _; rw [kv_id hg h]
  | dct kvs => show Cell.dct (kvs.map _) = _; rw [kv_id hg h]
  | dck kvs => show Cell.dck (kvs.map _) = _; rw [kv_id hg h]
theorem newN_lt {n0 : Nat} {L : List Nat} {k : Nat} (h : decide (k < n0) = true) : newN n0 L k = k := if_pos (of_decide_eq_true h)
theorem okN_lt {n0 : Nat} {L : List Nat} {ks : List Nat} (h : ks.all (fun k => decide (k < n0)) = true) : ks.all (okN n0 L) = true := by
  rw [List.all_eq_true] at h ⊢
  intro k hk
  unfold okN
  rw [h k hk]; rfl
/-- behind a call that tells of nothing new -/
theorem finish_old {st st1 : Sto} {d : D} (ho : OldOk st st1) (h : (locsD d).all (fun k => decide (k < st.length)) = true) : finish st (.ok d st1) = .ok d (st1.take st.length) := by
  show (if OldOk st st1 then gcD st.length (reach st.length st1 40 (locsD d) []) d st1 else _) = _
  rw [if_pos ho, reach_old _ _ _ h]
  unfold gcD
  rw [if_pos ⟨List.nodup_nil, (fun k hk => nomatch hk), okN_lt h⟩, rnD_id (p := fun k => decide (k < st.length)) (fun k hk => newN_lt hk) h]
  simp
/-- .. of one new thing -/
theorem finish_one {st st1 : Sto} {k : Nat} {c : Cell} (ho : OldOk st st1) (hk : st.length ≤ k) (hc : st1[k]? = some c) (h : (locsC c).all (fun k => decide (k < st.length)) = true) : finish st (.ok (.loc k) st1) = .ok (.loc st.length) (st1.take st.length ++ [c]) := by
  show (if OldOk st st1 then gcD st.length (reach st.length st1 40 [k] []) (.loc k) st1 else _) = _
  have hr : reach st.length st1 40 [k] [] = [k] := by
    rw [reach, if_neg (by simp; omega), hc]
    exact reach_old _ _ _ (by simpa using h)
  rw [if_pos ho, hr]
  have hn : ∀ j, decide (j < st.length) = true → newN st.length [k] j = j := fun j hj => newN_lt hj
  unfold gcD
  rw [if_pos ⟨by simp, fun j hj => by
    rw [List.mem_singleton] at hj; subst hj
    exact ⟨hk, by rw [hc, Option.map_some, okN_lt h]⟩, by simp [locsD, okN]⟩]
  have e1 : newN st.length [k] k = st.length := by
    unfold newN
    rw [if_neg (by omega)]; simp
  show R.ok (D.loc (newN st.length [k] k)) (_ ++ [rnC _ (st1[k]?.getD _)]) = _
  rw [e1, hc]
  show R.ok _ (_ ++ [rnC _ c]) = _
  rw [rnC_id hn h]
theorem oldOk_app (st x : Sto) : OldOk st (st ++ x) := fun i hi => .inl (List.getElem?_append_left hi)
theorem oldOk_rfl (st : Sto) : OldOk st st := fun i hi => .inl rfl
theorem finish_same (st : Sto) (d : D) (h : (locsD d).all (fun k => decide (k < st.length)) = true) : finish st (.ok d st) = .ok d st := by
  rw [finish_old (oldOk_rfl st) h, List.take_length]
mutual
theorem clD_locs {n : Nat} : ∀ {d : D}, clD n d = true → (locsD d).all (fun k => decide (k < n)) = true
  | .non, _ => rfl
  | .bl _, _ => rfl
  | .int _, _ => rfl
  | .str _, _ => rfl
  | .tup ds, h => by rw [clD] at h; rw [locsD]; exact clDs_locs h
  | .loc k, h => by rw [clD] at h; simpa [locsD] using h
  | .fl ds, h => by rw [clD] at h; rw [locsD]; exact clDs_locs h
theorem clDs_locs {n : Nat} : ∀ {d : List D}, clDs n d = true → (locsDs d).all (fun k => decide (k < n)) = true
  | [], _ => rfl
  | d :: ds, h => by
    rw [clDs, Bool.and_eq_true] at h
    rw [locsDs, List.all_append, clD_locs h.1, clDs_locs h.2]; rfl
end
theorem all_mono {n n' : Nat} (hn : n ≤ n') {ks : List Nat} (h : ks.all (fun k => decide (k < n)) = true) : ks.all (fun k => decide (k < n')) = true := by
  rw [List.all_eq_true] at h ⊢
  intro k hk
  have := of_decide_eq_true (h k hk)
  exact decide_eq_true (by omega)
@[simp] theorem finish_st (st : Sto) (d : D) (h : clD 0 d = true) : finish st (.ok d st) = .ok d st := finish_same st d (all_mono (Nat.zero_le _) (clD_locs h))
/-- a call that made new things alone, and hands back data -/
@[simp] theorem finish_new (st x : Sto) (d : D) (h : clD 0 d = true) : finish st (.ok d (st ++ x)) = .ok d st := by
  rw [finish_old (oldOk_app st x) (all_mono (Nat.zero_le _) (clD_locs h)), List.take_left' rfl]
/-- a call that made new things alone, and hands back one of them -/
theorem finish_newL (st x : Sto) {j : Nat} {c : Cell} (hc : x[j]? = some c) (h : (locsC c).all (fun k => decide (k < st.length)) = true) : finish st (.ok (.loc (st.length + j)) (st ++ x)) = .ok (.loc st.length) (st ++ [c]) := by
  rw [finish_one (oldOk_app st x) (by omega) (by rw [List.getElem?_append_right (by omega), Nat.add_sub_cancel_left]; exact hc) h, List.take_left' rfl]
/-- what stays from st to st', but at the places S -/
structure Keep (S : List Nat) (st st' : Sto) : Prop where
  le : st.length ≤ st'.length
  at_ : ∀ i, i < st.length → i ∉ S → st'[i]? = st[i]?
theorem Keep.refl (S : List Nat) (st : Sto) : Keep S st st := ⟨Nat.le_refl _, fun _ _ _ => rfl⟩
theorem Keep.trans {S : List Nat} {a b c : Sto} (h : Keep S a b) (g : Keep S b c) : Keep S a c := ⟨Nat.le_trans h.le g.le, fun i hi hn => (g.at_ i (Nat.lt_of_lt_of_le hi h.le) hn).trans (h.at_ i hi hn)⟩
theorem Keep.mono {S T : List Nat} {a b : Sto} (h : Keep S a b) (s : ∀ i ∈ S, i ∈ T) : Keep T a b := ⟨h.le, fun i hi hn => h.at_ i hi fun z => hn (s i z)⟩
theorem Keep.app (S : List Nat) (st x : Sto) : Keep S st (st ++ x) := ⟨by simp, fun i hi _ => List.getElem?_append_left hi⟩
theorem Keep.set {S : List Nat} {st : Sto} {n : Nat} {c : Cell} (h : n ∈ S) : Keep S st (st.set n c) := ⟨by simp, fun i hi hn => List.getElem?_set_ne fun e => hn (by rw [← e]; exact h)⟩
theorem Keep.get {S : List Nat} {st st' : Sto} (h : Keep S st st') {i : Nat} {c : Cell} (e : st[i]? = some c) (hn : i ∉ S) : st'[i]? = some c := by
  rw [h.at_ i (List.getElem?_eq_some_iff.mp e).1 hn]; exact e
theorem lt_of_at {st : Sto} {i : Nat} {c : Cell} (e : st[i]? = some c) : i < st.length := (List.getElem?_eq_some_iff.mp e).1
theorem app_at {st : Sto} {i : Nat} {c : Cell} (x : Sto) (e : st[i]? = some c) : (st ++ x)[i]? = some c := by
  rw [List.getElem?_append_left (lt_of_at e)]; exact e
theorem set_at {st : Sto} {i n : Nat} {c c' : Cell} (e : st[i]? = some c) (h : n ≠ i) : (st.set n c')[i]? = some c := by
  rw [List.getElem?_set_ne h]; exact e
theorem set_here {st : Sto} {i : Nat} {c c' : Cell} (e : st[i]? = some c) : (st.set i c')[i]? = some c' := List.getElem?_set_self (lt_of_at e)
/-- the end of a call that changed the places S -/
theorem finish_keep {st st1 : Sto} {d : D} {S : List Nat} (h : clD 0 d = true) (k : Keep S st st1) (hc : ∀ i ∈ S, ∃ c, st1[i]? = some c ∧ clC st.length c = true) :
    ∃ st', finish st (.ok d st1) = .ok d st' ∧ Keep S st st' ∧ st'.length = st.length ∧ ∀ i, i < st.length → st'[i]? = st1[i]? := by
  refine ⟨st1.take st.length, ?_, ⟨by rw [List.length_take]; have := k.le; omega, fun i hi hn => ?_⟩, by rw [List.length_take]; have := k.le; omega, fun i hi => ?_⟩
  · refine finish_old (fun i hi => ?_) (all_mono (Nat.zero_le _) (clD_locs h))
    by_cases hs : i ∈ S
    · obtain ⟨c, e, q⟩ := hc i hs
      exact .inr (by rw [e]; simp [q])
    · exact .inl (k.at_ i hi hs)
  · rw [List.getElem?_take_of_lt hi]; exact k.at_ i hi hn
  · exact List.getElem?_take_of_lt hi
theorem Keep.setN {S : List Nat} {st st1 : Sto} {n : Nat} {c : Cell} (k : Keep S st st1) (h : st.length ≤ n) : Keep S st (st1.set n c) := ⟨by simp [k.le], fun i hi hn => by rw [List.getElem?_set_ne (by omega)]; exact k.at_ i hi hn⟩
theorem Keep.appN {S : List Nat} {st st1 : Sto} (k : Keep S st st1) (x : Sto) : Keep S st (st1 ++ x) := k.trans (Keep.app S st1 x)
/-- a call that changed nothing that stood -/
theorem finish_pure {st st1 : Sto} {d : D} (h : clD 0 d = true) (k : Keep [] st st1) : finish st (.ok d st1) = .ok d st := by
  obtain ⟨st', e, k', l, at_⟩ := finish_keep (S := []) h k (fun i hi => by simp at hi)
  rw [e]
  congr 1
  refine List.ext_getElem? fun i => ?_
  by_cases hi : i < st.length
  · exact k'.at_ i hi (by simp)
  · rw [List.getElem?_eq_none (by omega), List.getElem?_eq_none (by omega)]
@[simp] theorem clDs_ints (n : Nat) : ∀ ns : List Int, clDs n (ns.map D.int) = true
  | [] => rfl
  | x :: xs => by rw [List.map_cons, clDs, clDs_ints n xs]; rfl
end Z
namespace Z
/-! ### evaluation, rule by rule -/
section
variable {C : Cl} {ρ : Env} {st s1 s2 s3 : Sto} {a b c i : IE} {es r : IEs} {d x y : D} {ds xs : List D} {k j : Bool}
theorem e_var {n : Nat} (h : ρ[n]? = some (some d)) : ev C (.var n) ρ st = .ok d st := by rw [ev, h]
theorem e_cst : ev C (.cst d) ρ st = .ok d st := by rw [ev]
theorem e_gl : ev C (.gl d) ρ st = .ok d st := by rw [ev]
theorem e_tup (h : evs C es ρ st = .ok ds s1) (hl : ds.length ≤ 1000) : ev C (.tup es) ρ st = .ok (.tup ds) s1 := by
  rw [ev, h, R_bind_ok, if_pos (Nat.le_trans hl (by decide))]
theorem e_lst (h : evs C es ρ st = .ok ds s1) (hl : ds.length ≤ 1000) : ev C (.lst es) ρ st = .ok (.loc s1.length) (s1 ++ [.lst ds]) := by
  rw [ev, h, R_bind_ok, if_pos (Nat.le_trans hl (by decide))]
theorem e_bin {o : BOp} (h1 : ev C a ρ st = .ok x s1) (h2 : ev C b ρ s1 = .ok y s2) (h3 : binD o x y s2 = .ok d s3) : ev C (.bin o a b) ρ st = .ok d s3 := by
  rw [ev, h1, R_bind_ok, h2, R_bind_ok, h3]
theorem e_cmp {o : COp} (h1 : ev C a ρ st = .ok x s1) (h2 : ev C b ρ s1 = .ok y s2) (h3 : cmpD o x y s2 = .ok d s3) : ev C (.cmp o a b) ρ st = .ok d s3 := by
  rw [ev, h1, R_bind_ok, h2, R_bind_ok, h3]
theorem e_and (h1 : ev C a ρ st = .ok (.bl k) s1) (h2 : k = true → ev C b ρ s1 = .ok (.bl j) s1) : ev C (.and a b) ρ st = .ok (.bl (k && j)) s1 := by
  rw [ev, h1, R_bind_ok, bOf_bl, R_bind_ok]
  cases k with
  | true => rw [if_pos rfl, h2 rfl]; rfl
  | false => rfl
theorem e_or (h1 : ev C a ρ st = .ok (.bl k) s1) (h2 : k = false → ev C b ρ s1 = .ok (.bl j) s1) : ev C (.or a b) ρ st = .ok (.bl (k || j)) s1 := by
  rw [ev, h1, R_bind_ok, bOf_bl, R_bind_ok]
  cases k with
  | false => rw [if_neg Bool.false_ne_true, h2 rfl]; rfl
  | true => rfl
theorem e_andF (h1 : ev C a ρ st = .ok (.bl false) s1) : ev C (.and a b) ρ st = .ok (.bl false) s1 := by
  rw [ev, h1, R_bind_ok, bOf_bl, R_bind_ok]; rfl
theorem e_andT (h1 : ev C a ρ st = .ok (.bl true) s1) (h2 : ev C b ρ s1 = .ok (.bl j) s2) : ev C (.and a b) ρ st = .ok (.bl j) s2 := by
  rw [ev, h1, R_bind_ok, bOf_bl, R_bind_ok, if_pos rfl, h2]; rfl
theorem e_orT (h1 : ev C a ρ st = .ok (.bl true) s1) : ev C (.or a b) ρ st = .ok (.bl true) s1 := by
  rw [ev, h1, R_bind_ok, bOf_bl, R_bind_ok]; rfl
theorem e_orF (h1 : ev C a ρ st = .ok (.bl false) s1) (h2 : ev C b ρ s1 = .ok (.bl j) s2) : ev C (.or a b) ρ st = .ok (.bl j) s2 := by
  rw [ev, h1, R_bind_ok, bOf_bl, R_bind_ok, if_neg Bool.false_ne_true, h2]; rfl
theorem e_not (h1 : ev C a ρ st = .ok (.bl k) s1) : ev C (.not a) ρ st = .ok (.bl (!k)) s1 := by
  rw [ev, h1, R_bind_ok, bOf_bl, R_bind_ok]
theorem e_iteT (h1 : ev C c ρ st = .ok (.bl true) s1) (h2 : ev C a ρ s1 = .ok d s2) : ev C (.ite c a b) ρ st = .ok d s2 := by
  rw [ev, h1, R_bind_ok, bOf_bl, R_bind_ok, if_pos rfl, h2]
theorem e_iteF (h1 : ev C c ρ st = .ok (.bl false) s1) (h2 : ev C b ρ s1 = .ok d s2) : ev C (.ite c a b) ρ st = .ok d s2 := by
  rw [ev, h1, R_bind_ok, bOf_bl, R_bind_ok, if_neg Bool.false_ne_true, h2]
theorem e_ix (h1 : ev C a ρ st = .ok x s1) (h2 : ev C i ρ s1 = .ok y s2) (h3 : ixD x y s2 = .ok d s3) : ev C (.ix a i) ρ st = .ok d s3 := by
  rw [ev, h1, R_bind_ok, h2, R_bind_ok, h3]
theorem e_sl {lo hi : IO} {l h : Option Int} {s4 : Sto} (h1 : ev C a ρ st = .ok x s1) (h2 : evO C lo ρ s1 = .ok l s2) (h3 : evO C hi ρ s2 = .ok h s3) (h4 : slD x l h s3 = .ok d s4) : ev C (.sl a lo hi) ρ st = .ok d s4 := by
  rw [ev, h1, R_bind_ok, h2, R_bind_ok, h3, R_bind_ok, h4]
theorem e_on : evO C .none ρ st = .ok none st := by rw [evO]
theorem e_os {n : Int} (h1 : ev C a ρ st = .ok (.int n) s1) : evO C (.some a) ρ st = .ok (some n) s1 := by rw [evO, h1, R_bind_ok, iOf_int]; rfl
theorem e_rev (h1 : ev C a ρ st = .ok x s1) (h3 : revD x s1 = .ok d s3) : ev C (.rev a) ρ st = .ok d s3 := by rw [ev, h1, R_bind_ok, h3]
theorem e_fld {f : PySem.Str} (h1 : ev C a ρ st = .ok x s1) (h3 : fldD x f s1 = .ok d s3) : ev C (.fld a f) ρ st = .ok d s3 := by rw [ev, h1, R_bind_ok, h3]
theorem e_isi {kd : Kd} (h1 : ev C a ρ st = .ok x s1) (h3 : isiD x kd s1 = .ok d s3) : ev C (.isi a kd) ρ st = .ok d s3 := by rw [ev, h1, R_bind_ok, h3]
theorem e_bi {o : Bi} (h1 : ev C a ρ st = .ok x s1) (h3 : biD o x s1 = .ok d s3) : ev C (.bi o a) ρ st = .ok d s3 := by rw [ev, h1, R_bind_ok, h3]
theorem e_call {f : Nat} (h1 : evs C es ρ st = .ok ds s1) (h2 : C.call f ds s1 = .ok d s2) : ev C (.call f es) ρ st = .ok d s2 := by rw [ev, h1, R_bind_ok, h2]
theorem e_mk {cn f : Nat} (h1 : evs C es ρ st = .ok ds s1) (hf : C.ini cn = some f) (h2 : C.call f (.loc s1.length :: ds) (s1 ++ [.ins cn []]) = .ok .non s2) : ev C (.mk cn es) ρ st = .ok (.loc s1.length) s2 := by
  rw [ev, h1, R_bind_ok, hf]
  show R.bind (C.call f (.loc s1.length :: ds) (s1 ++ [.ins cn []])) _ = _
  rw [h2]; rfl
theorem e_me0 {me : Me} (h1 : ev C a ρ st = .ok x s1) (h2 : recvOk me s1 x = true) (h3 : me0D me x s1 = .ok d s2) : ev C (.me0 me a) ρ st = .ok d s2 := by rw [ev, h1, R_bind_ok, if_pos h2, h3]
theorem e_me1 {me : Me} (h1 : ev C a ρ st = .ok x s1) (h2 : recvOk me s1 x = true) (h3 : ev C b ρ s1 = .ok y s2) (h4 : me1D me x y s2 = .ok d s3) : ev C (.me1 me a b) ρ st = .ok d s3 := by
  rw [ev, h1, R_bind_ok, if_pos h2, h3, R_bind_ok, h4]
theorem e_om {nm : PySem.Str} {mi n cn f : Nat} {fs : List (PySem.Str × D)} (h1 : ev C a ρ st = .ok (.loc n) s1) (h2 : s1[n]? = some (.ins cn fs)) (hf : C.meth cn mi = some f) (hn : fs.lookup nm = none) (h3 : evs C es ρ s1 = .ok ds s2) (h4 : C.call f (.loc n :: ds) s2 = .ok d s3) :
    ev C (.om nm mi a es) ρ st = .ok d s3 := by
  rw [ev, h1, R_bind_ok]
  simp only [h2, hf, hn]
  rw [h3, R_bind_ok, h4]
theorem e_nil : evs C .nil ρ st = .ok [] st := by rw [evs]
theorem e_cons (h1 : ev C a ρ st = .ok x s1) (h2 : evs C r ρ s1 = .ok xs s2) : evs C (.cons a r) ρ st = .ok (x :: xs) s2 := by rw [evs, h1, R_bind_ok, h2]; rfl
theorem e_it {w : Wk} (h1 : ev C a ρ st = .ok x s1) (h2 : wkD x s1 = .ok w s2) : evI C (.it a) ρ st = .ok w s2 := by rw [evI, h1, R_bind_ok, h2]
theorem e_rng1 {n : Int} (h1 : ev C a ρ st = .ok (.int n) s1) (h : iLim n) : evI C (.rng1 a) ρ st = .ok (rngW 0 n.toNat) s1 := by rw [evI, h1, R_bind_ok, iOf_int, R_bind_ok, if_pos h]
theorem e_comp {e : IE} {t : IT} {own : List Nat} {it : II} {co : IO} {w : Wk} {ys : List D} (h1 : evI C it ρ st = .ok w s1)
    (h2 : compL w (turnC C t own co e ρ) w.xs s1 = .ok ys s2) (h3 : ys.length ≤ LIM) : ev C (.comp e t own it co) ρ st = .ok (.loc s2.length) (s2 ++ [.lst ys]) := by
  have q : ev C (.comp e t own it co) ρ st = (evI C it ρ st).bind fun w st => ((compL w (turnC C t own co e ρ) w.xs st).noex).bind fun ys st => if ys.length ≤ LIM then .ok (.loc st.length) (st ++ [.lst ys]) else .stuck := by
    rw [ev]; rfl
  rw [q, h1, R_bind_ok, h2, R_noex_ok, R_bind_ok, if_pos h3]
theorem t_one {e : IE} {t : IT} {own : List Nat} {ρ1 : Env} (h1 : asgT (wipeE ρ own) t x = some ρ1) (h2 : ev C e ρ1 st = .ok y s1) : turnC C t own .none e ρ x st = .ok (some y) s1 := by
  unfold turnC
  simp only [h1]
  rw [evC, R_bind_ok, if_pos rfl, h2]; rfl
/-- a comprehension over a fixed thing, the store staying -/
theorem compL_map {α : Type} {f : D → Sto → R (Option D)} {u v : α → D} {w : Wk} (hw : w.l = none) : ∀ (l : List α), (∀ a ∈ l, f (u a) st = .ok (some (v a)) st) → compL w f (l.map u) st = .ok (l.map v) st
  | [], _ => by rw [List.map_nil]; unfold compL; rw [if_pos (by unfold Wk.stays; rw [hw])]; rfl
  | a :: l, h => by
    rw [List.map_cons]
    unfold compL
    rw [if_pos (by unfold Wk.stays; rw [hw]), h a List.mem_cons_self, R_bind_ok, compL_map hw l fun y hy => h y (List.mem_cons_of_mem _ hy)]
    rfl
variable {F : Nat} {s : IS} {rs ss : ISs} {ρ1 : Env} {res : SR}
theorem b_nil : evSs C F .nil ρ st = .ok .nx ρ st := by rw [evSs]
theorem b_cons (h1 : evS C F s ρ st = .ok .nx ρ1 s1) (h2 : evSs C F ss ρ1 s1 = res) : evSs C F (.cons s ss) ρ st = res := by rw [evSs, h1, SR_then_nx, h2]
theorem b_rt {d : D} (h1 : evS C F s ρ st = .ok (.rt d) ρ1 s1) : evSs C F (.cons s ss) ρ st = .ok (.rt d) ρ1 s1 := by rw [evSs, h1]; rfl
theorem s_asg {t : IT} (h1 : ev C a ρ st = .ok x s1) (h2 : asgT ρ t x = some ρ1) : evS C F (.asg t a) ρ st = .ok .nx ρ1 s1 := by rw [evS, h1, R_sbind_ok]; simp only [h2]
theorem s_expr (h1 : ev C a ρ st = .ok x s1) : evS C F (.expr a) ρ st = .ok .nx ρ s1 := by rw [evS, h1]; rfl
theorem s_ret (h1 : ev C a ρ st = .ok x s1) : evS C F (.ret a) ρ st = .ok (.rt x) ρ s1 := by rw [evS, h1]; rfl
theorem s_setf {f : PySem.Str} {n cn : Nat} {fs : List (PySem.Str × D)} (h1 : ev C b ρ st = .ok y s1) (h2 : ev C a ρ s1 = .ok (.loc n) s2) (h3 : s2[n]? = some (.ins cn fs)) (h4 : fs.length < 1000) : evS C F (.setf a f b) ρ st = .ok .nx ρ (s2.set n (.ins cn (putF' f y fs))) := by
  rw [evS, h1, R_sbind_ok, h2, R_sbind_ok]
  simp only [h3]
  rw [if_pos h4]
theorem s_seti {n j : Nat} {z : Int} (h1 : ev C b ρ st = .ok y s1) (h2 : ev C a ρ s1 = .ok (.loc n) s2) (h3 : ev C i ρ s2 = .ok (.int z) s3) (h4 : s3[n]? = some (.lst xs)) (h5 : L2.ixN xs.length z = some j) : evS C F (.seti a i b) ρ st = .ok .nx ρ (s3.set n (.lst (xs.set j y))) := by
  rw [evS, h1, R_sbind_ok, h2, R_sbind_ok, h3, R_sbind_ok]
  simp only [h4, h5]
theorem s_iteT (h1 : ev C c ρ st = .ok (.bl true) s1) (h2 : evSs C F ss ρ s1 = res) : evS C F (.ite c ss rs) ρ st = res := by rw [evS, evT, h1, R_bind_ok, bOf_bl, R_sbind_ok, if_pos rfl, h2]
theorem s_iteF (h1 : ev C c ρ st = .ok (.bl false) s1) (h2 : evSs C F rs ρ s1 = res) : evS C F (.ite c ss rs) ρ st = res := by rw [evS, evT, h1, R_bind_ok, bOf_bl, R_sbind_ok, if_neg Bool.false_ne_true, h2]
theorem s_ifT (h1 : ev C c ρ st = .ok (.bl k) s1) (hk : k = true) (h2 : evSs C F ss ρ s1 = res) : evS C F (.ite c ss rs) ρ st = res := by subst hk; exact s_iteT h1 h2
theorem s_ifF (h1 : ev C c ρ st = .ok (.bl k) s1) (hk : k = false) (h2 : evSs C F rs ρ s1 = res) : evS C F (.ite c ss rs) ρ st = res := by subst hk; exact s_iteF h1 h2
theorem s_for {t : IT} {it : II} {w : Wk} (h1 : evI C it ρ st = .ok w s1) (h2 : loopF w t (evSs C F ss) w.xs ρ s1 = res) : evS C F (.for_ t it ss) ρ st = res := by rw [evS, h1, R_sbind_ok, h2]
/-- what a def hands back -/
theorem c_rt {pr : Prog} {k f : Nat} {fi : FnIR} (h : pr.fns[f]? = some fi) (hn : ds.length = fi.np) {ρ1 : Env} (e : evSs (pr.cl F k) F fi.body (ds.map some ++ List.replicate (fi.nl - fi.np) none) st = .ok (.rt d) ρ1 s1) : pr.call F (k + 1) f ds st = finish st (.ok d s1) := by
  rw [call_eq pr F k h hn, e, runB_rt]
theorem c_nx {pr : Prog} {k f : Nat} {fi : FnIR} (h : pr.fns[f]? = some fi) (hn : ds.length = fi.np) {ρ1 : Env} (e : evSs (pr.cl F k) F fi.body (ds.map some ++ List.replicate (fi.nl - fi.np) none) st = .ok .nx ρ1 s1) : pr.call F (k + 1) f ds st = finish st (.ok .non s1) := by
  rw [call_eq pr F k h hn, e, runB_nx]
/-! ### the operations -/
variable {n m : Nat} {z w : Int} {t u : Tx}
theorem d_mul (h : (-(2 ^ 64) < z ∧ z < 2 ^ 64) ∨ (-(2 ^ 64) < w ∧ w < 2 ^ 64)) : binD .mul (.int z) (.int w) st = .ok (.int (z * w)) st := by unfold binD; simp only; rw [if_pos h]
theorem d_fdiv (h : 0 < w ∧ w < 1073741824) : binD .fdiv (.int z) (.int w) st = .ok (.int (z / w)) st := by unfold binD; simp only; rw [if_pos h]
theorem d_mod (h : 0 < w) : binD .mod (.int z) (.int w) st = .ok (.int (z % w)) st := by unfold binD; simp only; rw [if_pos h]
theorem d_addS (h : t.length + u.length ≤ LIM) : binD .add (.str t) (.str u) st = .ok (.str (t ++ u)) st := by unfold binD; simp only; rw [if_pos h]
theorem d_addT {ts us : List D} (h : ts.length + us.length ≤ LIM) : binD .add (.tup ts) (.tup us) st = .ok (.tup (ts ++ us)) st := by unfold binD; simp only; rw [if_pos h]
theorem d_eq {b : Bool} (h : eqD st x y = some b) : cmpD .eq x y st = .ok (.bl b) st := by unfold cmpD; simp only; rw [h]; rfl
theorem d_ne {b : Bool} (h : eqD st x y = some b) : cmpD .ne x y st = .ok (.bl (!b)) st := by unfold cmpD; simp only; rw [h]; rfl
theorem d_eqL (h1 : st[n]? = some (.lst xs)) (h2 : st[m]? = some (.lst [])) : eqD st (.loc n) (.loc m) = some xs.isEmpty := by unfold eqD; simp only [h1, h2]
theorem d_ixL (h1 : st[n]? = some (.lst xs)) (h2 : L2.atI xs z = some d) : ixD (.loc n) (.int z) st = .ok d st := by
  unfold ixD; simp only [h1]; unfold ixS seqD; simp only [h1]; rw [ofO_some, R_bind_ok, h2]; rfl
theorem d_ixT (h2 : L2.atI xs z = some d) : ixD (.tup xs) (.int z) st = .ok d st := by
  unfold ixD; simp only; unfold ixS seqD; simp only; rw [ofO_some, R_bind_ok, h2]; rfl
theorem d_ixS {cd : Nat} (h : t.length ≤ LIM) (h2 : L2.atI t z = some cd) : ixD (.str t) (.int z) st = .ok (.str [cd]) st := by
  unfold ixD; simp only; unfold ixS; simp only; rw [if_pos h, h2]; rfl
theorem d_lenL (h1 : st[n]? = some (.lst xs)) : biD .len (.loc n) st = .ok (.int xs.length) st := by unfold biD seqD; simp only [h1]; rfl
theorem d_lenS (h : t.length ≤ LIM) : biD .len (.str t) st = .ok (.int t.length) st := by unfold biD; simp only; rw [if_pos h]
theorem d_tupL (h1 : st[n]? = some (.lst xs)) : biD .tuple (.loc n) st = .ok (.tup xs) st := by unfold biD seqD; simp only [h1]; rfl
theorem d_listL (h1 : st[n]? = some (.lst xs)) : biD .list (.loc n) st = .ok (.loc st.length) (st ++ [.lst xs]) := by unfold biD seqD; simp only [h1]; rfl
theorem d_revL (h1 : st[n]? = some (.lst xs)) : revD (.loc n) st = .ok (.loc st.length) (st ++ [.lst xs.reverse]) := by unfold revD lstD; simp only [h1]; rfl
theorem d_isiL {kd : Kd} (h1 : st[n]? = some (.lst xs)) : isiD (.loc n) kd st = .ok (.bl (decide (some Kd.lst = some kd ∨ (some Kd.lst = some .bool ∧ kd = .int)))) st := by unfold isiD kindD; simp only [h1]; rfl
theorem d_slS {lo hi : Option Int} (h : t.length ≤ LIM) : slD (.str t) lo hi st = .ok (.str (cutD t lo hi)) st := by unfold slD; simp only; rw [if_pos h]
theorem d_fld {f : PySem.Str} {cn : Nat} {fs : List (PySem.Str × D)} (h1 : st[n]? = some (.ins cn fs)) (h2 : fs.lookup f = some d) : fldD (.loc n) f st = .ok d st := by unfold fldD; simp only [h1]; rw [h2]; rfl
theorem r_lst {me : Me} (h1 : st[n]? = some (.lst xs)) (hm : me ≠ .join) (hs : me ≠ .split := by decide) : recvOk me st (.loc n) = true := by
  unfold recvOk; cases me <;> first | (exact absurd rfl hm) | (exact absurd rfl hs) | (simp [kindD, h1])
theorem d_pop {y : D} (h1 : st[n]? = some (.lst xs)) (h2 : xs.getLast? = some y) : me0D .pop (.loc n) st = .ok y (st.set n (.lst xs.dropLast)) := by unfold me0D; simp only [h1, h2]
theorem d_app (h1 : st[n]? = some (.lst xs)) (h2 : xs.length < LIM) : me1D .append (.loc n) y st = .ok .non (st.set n (.lst (xs ++ [y]))) := by unfold me1D; simp only [h1]; rw [if_pos h2]
theorem d_popAt {j : Nat} {y : D} (h1 : st[n]? = some (.lst xs)) (h2 : L2.ixN xs.length z = some j) (h3 : xs[j]? = some y) (h4 : xs.length ≤ LIM) : me1D .pop (.loc n) (.int z) st = .ok y (st.set n (.lst (xs.eraseIdx j))) := by
  unfold me1D; simp only [h1, h2, h3]; rw [if_pos h4]
theorem d_ext {ys : List D} (h1 : st[n]? = some (.lst xs)) (h2 : st[m]? = some (.lst ys)) (h3 : xs.length + ys.length ≤ LIM) : me1D .extend (.loc n) (.loc m) st = .ok .non (st.set n (.lst (xs ++ ys))) := by unfold me1D; simp only [h1, h2]; rw [if_pos h3]
theorem strsD_map (ts : List Tx) : strsD (ts.map D.str) = some ts := by
  induction ts with
  | nil => rfl
  | cons t ts ih => rw [List.map_cons, strsD, ih]
theorem d_join {sep : Tx} {ts : List Tx} (h1 : st[n]? = some (.lst (ts.map D.str))) (h2 : (ts.map List.length).sum + ts.length * sep.length ≤ LIM) : me1D .join (.str sep) (.loc n) st = .ok (.str (joinT sep ts)) st := by
  unfold me1D seqD; simp only [h1]; rw [ofO_some, R_bind_ok, strsD_map, ofO_some, R_bind_ok, if_pos h2]
theorem at_last {c : Cell} : (st ++ [c])[st.length]? = some c := by simp
theorem atI_0 {α : Type} {x : α} {xs : List α} : L2.atI (x :: xs) 0 = some x := by
  unfold L2.atI L2.ixN
  rw [if_pos (Int.le_refl 0), if_pos (by simp only [List.length_cons]; omega)]; rfl
theorem ixN_0 {n : Nat} : L2.ixN (n + 1) 0 = some 0 := by
  unfold L2.ixN
  rw [if_pos (Int.le_refl 0), if_pos (by omega)]; rfl
theorem atI_nat {α : Type} {xs : List α} {i : Nat} {x : α} (h : xs[i]? = some x) : L2.atI xs (i : Int) = some x := L2.atI_nat h
end
end Z
namespace Z
section
variable {C : Cl} {F : Nat} {st : Sto} {ρ : Env} {z w : Int}
theorem d_gtF (h : ¬ w < z) : cmpD .gt (.int z) (.int w) st = .ok (.bl false) st := by show R.ok (D.bl (decide _)) st = _; rw [decide_eq_false h]
theorem d_gtT (h : w < z) : cmpD .gt (.int z) (.int w) st = .ok (.bl true) st := by show R.ok (D.bl (decide _)) st = _; rw [decide_eq_true h]
theorem d_geF (h : ¬ w ≤ z) : cmpD .ge (.int z) (.int w) st = .ok (.bl false) st := by show R.ok (D.bl (decide _)) st = _; rw [decide_eq_false h]
theorem d_geT (h : w ≤ z) : cmpD .ge (.int z) (.int w) st = .ok (.bl true) st := by show R.ok (D.bl (decide _)) st = _; rw [decide_eq_true h]
theorem d_ltF (h : ¬ z < w) : cmpD .lt (.int z) (.int w) st = .ok (.bl false) st := by show R.ok (D.bl (decide _)) st = _; rw [decide_eq_false h]
theorem d_ltT (h : z < w) : cmpD .lt (.int z) (.int w) st = .ok (.bl true) st := by show R.ok (D.bl (decide _)) st = _; rw [decide_eq_true h]
theorem d_leF (h : ¬ z ≤ w) : cmpD .le (.int z) (.int w) st = .ok (.bl false) st := by show R.ok (D.bl (decide _)) st = _; rw [decide_eq_false h]
theorem d_leT (h : z ≤ w) : cmpD .le (.int z) (.int w) st = .ok (.bl true) st := by show R.ok (D.bl (decide _)) st = _; rw [decide_eq_true h]
theorem d_gt : cmpD .gt (.int z) (.int w) st = .ok (.bl (decide (w < z))) st := rfl
theorem d_memT {c : Nat} {y : Tx} (h : c ∈ y) : cmpD .mem (.str [c]) (.str y) st = .ok (.bl true) st := by show R.ok (D.bl (decide (c ∈ y))) st = _; rw [decide_eq_true h]
theorem d_nmemF {c : Nat} {y : Tx} (h : c ∈ y) : cmpD .nmem (.str [c]) (.str y) st = .ok (.bl false) st := by show R.ok (D.bl (!decide (c ∈ y))) st = _; rw [decide_eq_true h]; rfl
theorem w_stop {c : IE} {b : ISs} {n : Nat} {s1 : Sto} (h : ev C c ρ st = .ok (.bl false) s1) : loopW (evT C c) (evSs C F b) (n + 1) ρ st = .ok .nx ρ s1 := by
  unfold loopW; rw [evT, h, R_bind_ok, bOf_bl, R_sbind_ok, if_neg Bool.false_ne_true]
theorem w_turn {c : IE} {b : ISs} {n : Nat} {s1 s2 : Sto} {ρ1 : Env} {res : SR} (h : ev C c ρ st = .ok (.bl true) s1) (hb : evSs C F b ρ s1 = .ok .nx ρ1 s2)
    (hr : loopW (evT C c) (evSs C F b) n ρ1 s2 = res) : loopW (evT C c) (evSs C F b) (n + 1) ρ st = res := by
  unfold loopW; rw [evT, h, R_bind_ok, bOf_bl, R_sbind_ok, if_pos rfl, hb, SR_turn_nx, hr]
theorem s_whl {c : IE} {b : ISs} {res : SR} (h : loopW (evT C c) (evSs C F b) F ρ st = res) : evS C F (.whl c b) ρ st = res := by rw [evS, h]
/-- a walk's turns -/
theorem loop_fix {α : Type} {w : Wk} {t : IT} {b : Env → Sto → SR} (l : List α) (u : α → D) (P : Nat → Env → Sto → Prop)
    (hs : ∀ i ρ st, P i ρ st → w.stays st = true)
    (hstep : ∀ i a ρ st, l[i]? = some a → P i ρ st → ∃ ρ1 ρ2 st2, asgT ρ t (u a) = some ρ1 ∧ b ρ1 st = .ok .nx ρ2 st2 ∧ P (i + 1) ρ2 st2) :
    ∀ (n j : Nat) (ρ : Env) (st : Sto), j + n = l.length → P j ρ st → ∃ ρ' st', loopF w t b ((l.drop j).map u) ρ st = .ok .nx ρ' st' ∧ P l.length ρ' st' := by
  intro n
  induction n with
  | zero =>
    intro j ρ st h hp
    rw [List.drop_eq_nil_of_le (by omega)]
    refine ⟨ρ, st, ?_, by rwa [show l.length = j by omega]⟩
    rw [List.map_nil]; unfold loopF; rw [if_pos (hs _ _ _ hp)]
  | succ n ih =>
    intro j ρ st h hp
    have hj : j < l.length := by omega
    rw [List.drop_eq_getElem_cons hj, List.map_cons]
    obtain ⟨ρ1, ρ2, st2, h1, h2, h3⟩ := hstep j l[j] ρ st (List.getElem?_eq_getElem hj) hp
    obtain ⟨ρ', st', h4, h5⟩ := ih (j + 1) ρ2 st2 (by omega) h3
    refine ⟨ρ', st', ?_, h5⟩
    unfold loopF
    rw [if_pos (hs _ _ _ hp)]
    simp only [h1]
    rw [h2, SR_turn_nx, h4]
theorem loop_rng {t : IT} {b : Env → Sto → SR} (n : Nat) (P : Nat → Env → Sto → Prop)
    (hstep : ∀ i ρ st, i < n → P i ρ st → ∃ ρ1 ρ2 st2, asgT ρ t (.int (0 + (i : Int))) = some ρ1 ∧ b ρ1 st = .ok .nx ρ2 st2 ∧ P (i + 1) ρ2 st2) {ρ : Env} {st : Sto} (hp : P 0 ρ st) :
    ∃ ρ' st', loopF (rngW 0 n) t b (rngW 0 n).xs ρ st = .ok .nx ρ' st' ∧ P n ρ' st' := by
  have := loop_fix (w := rngW 0 n) (t := t) (b := b) (List.range n) (fun k : Nat => D.int (0 + (k : Int))) P (fun _ _ _ _ => rfl) (fun i a ρ st ha hp => by
    have h1 := List.getElem?_eq_some_iff.mp ha
    obtain ⟨h2, h3⟩ := h1
    rw [List.getElem_range] at h3
    subst h3
    exact hstep _ ρ st (by simpa using h2) hp) n 0 ρ st (by simp) hp
  rw [List.drop_zero, List.length_range] at this
  exact this
end
/-- the end of a call that changed one thing -/
theorem finish_set {st st1 : Sto} {d : D} {o : Nat} {c : Cell} (h : clD 0 d = true) (k : Keep [o] st st1) (ho : o < st.length) (hc : st1[o]? = some c) (hcl : clC st.length c = true) : finish st (.ok d st1) = .ok d (st.set o c) := by
  obtain ⟨st', e, k', l, at_⟩ := finish_keep (S := [o]) h k (fun i hi => by
    simp only [List.mem_cons, List.not_mem_nil, or_false] at hi
    subst hi; exact ⟨c, hc, hcl⟩)
  rw [e]
  congr 1
  refine List.ext_getElem? fun i => ?_
  by_cases hi : i < st.length
  · by_cases hio : i = o
    · subst hio; rw [at_ i hi, hc, List.getElem?_set_self hi]
    · rw [k'.at_ i hi (by simpa using hio), List.getElem?_set_ne (Ne.symm hio)]
  · rw [List.getElem?_eq_none (by omega), List.getElem?_eq_none (by simp; omega)]
/-! data without things -/
mutual
def purD : D → Bool
  | .loc _ => false
  | .fl _ => false
  | .tup xs => purDs xs
  | _ => true
def purDs : List D → Bool
  | [] => true
  | x :: xs => purD x && purDs xs
end
mutual
def depD : D → Nat
  | .tup xs => 1 + depDs xs
  | _ => 1
def depDs : List D → Nat
  | [] => 0
  | x :: xs => max (depD x) (depDs xs)
end
theorem purDs_mem {ts : List D} : ∀ {t : D}, purDs ts = true → t ∈ ts → purD t = true := by
  induction ts with
  | nil => intro t _ h; cases h
  | cons u us ih =>
    intro t o h
    rw [purDs, Bool.and_eq_true] at o
    rcases List.mem_cons.mp h with rfl | h
    · exact o.1
    · exact ih o.2 h
theorem depDs_mem {ts : List D} : ∀ {t : D}, t ∈ ts → depD t ≤ depDs ts := by
  induction ts with
  | nil => intro t h; cases h
  | cons u us ih =>
    intro t h
    rw [depDs]
    rcases List.mem_cons.mp h with rfl | h
    · exact Nat.le_max_left _ _
    · exact Nat.le_trans (ih h) (Nat.le_max_right _ _)
theorem depD_pos (d : D) : 1 ≤ depD d := by cases d <;> simp [depD]
mutual
def sizD : D → Nat
  | .tup xs => 1 + sizDs xs
  | _ => 1
def sizDs : List D → Nat
  | [] => 0
  | x :: xs => 1 + sizD x + sizDs xs
end
end Z
/-! evaluation by simp -/
namespace Z
section
variable {C : Cl} {ρ : Env} {st : Sto} {F : Nat} {a b c i e : IE} {es : IEs} {r : IEs} {lo hi : IO} {s : IS} {ss rs : ISs}
@[simp] theorem x_var (n : Nat) : ev C (.var n) ρ st = (match ρ[n]? with | some (some d) => .ok d st | _ => .stuck) := by rw [ev] <;> rfl
@[simp] theorem x_cst (d : D) : ev C (.cst d) ρ st = .ok d st := by rw [ev]
@[simp] theorem x_gl (d : D) : ev C (.gl d) ρ st = .ok d st := by rw [ev]
@[simp] theorem x_tup  : ev C (.tup es) ρ st = (evs C es ρ st).bind fun ds st => if ds.length ≤ LIM then .ok (.tup ds) st else .stuck := by rw [ev]
@[simp] theorem x_lst  : ev C (.lst es) ρ st = (evs C es ρ st).bind fun ds st => if ds.length ≤ LIM then .ok (.loc st.length) (st ++ [.lst ds]) else .stuck := by rw [ev]
@[simp] theorem x_bin (o : BOp) : ev C (.bin o a b) ρ st = (ev C a ρ st).bind fun x st => (ev C b ρ st).bind fun y st => binD o x y st := by rw [ev]
@[simp] theorem x_cmp (o : COp) : ev C (.cmp o a b) ρ st = (ev C a ρ st).bind fun x st => (ev C b ρ st).bind fun y st => cmpD o x y st := by rw [ev]
@[simp] theorem x_and  : ev C (.and a b) ρ st = (ev C a ρ st).bind fun x st => (bOf st x).bind fun k st => if k = true then (ev C b ρ st).bind fun y st => (bOf st y).bind fun j st => .ok (.bl j) st else .ok (.bl false) st := by rw [ev]
@[simp] theorem x_or  : ev C (.or a b) ρ st = (ev C a ρ st).bind fun x st => (bOf st x).bind fun k st => if k = true then .ok (.bl true) st else (ev C b ρ st).bind fun y st => (bOf st y).bind fun j st => .ok (.bl j) st := by rw [ev]
@[simp] theorem x_not  : ev C (.not a) ρ st = (ev C a ρ st).bind fun x st => (bOf st x).bind fun k st => .ok (.bl (!k)) st := by rw [ev]
@[simp] theorem x_ite  : ev C (.ite c a b) ρ st = (ev C c ρ st).bind fun x st => (bOf st x).bind fun k st => if k = true then ev C a ρ st else ev C b ρ st := by rw [ev]
@[simp] theorem x_ix  : ev C (.ix a i) ρ st = (ev C a ρ st).bind fun x st => (ev C i ρ st).bind fun y st => ixD x y st := by rw [ev]
@[simp] theorem x_sl  : ev C (.sl a lo hi) ρ st = (ev C a ρ st).bind fun x st => (evO C lo ρ st).bind fun l st => (evO C hi ρ st).bind fun h st => slD x l h st := by rw [ev]
@[simp] theorem x_rev  : ev C (.rev a) ρ st = (ev C a ρ st).bind fun x st => revD x st := by rw [ev]
@[simp] theorem x_fld (f : PySem.Str) : ev C (.fld a f) ρ st = (ev C a ρ st).bind fun x st => fldD x f st := by rw [ev]
@[simp] theorem x_isi (k : Kd) : ev C (.isi a k) ρ st = (ev C a ρ st).bind fun x st => isiD x k st := by rw [ev]
@[simp] theorem x_bi (o : Bi) : ev C (.bi o a) ρ st = (ev C a ρ st).bind fun x st => biD o x st := by rw [ev]
@[simp] theorem x_call (f : Nat) : ev C (.call f es) ρ st = (evs C es ρ st).bind fun ds st => C.call f ds st := by rw [ev]
@[simp] theorem x_me0 (m : Me) : ev C (.me0 m a) ρ st = (ev C a ρ st).bind fun x st => if recvOk m st x = true then me0D m x st else .stuck := by rw [ev]
@[simp] theorem x_me1 (m : Me) : ev C (.me1 m a b) ρ st = (ev C a ρ st).bind fun x st => if recvOk m st x = true then (ev C b ρ st).bind fun y st => me1D m x y st else .stuck := by rw [ev]
@[simp] theorem x_dnew (t : Bool) : ev C (.dnew t) ρ st = .ok (.loc st.length) (st ++ [if t = true then .dct [] else .dck []]) := by rw [ev]
@[simp] theorem x_cch (o o' : COp) : ev C (.cch o o' a b c) ρ st = (ev C a ρ st).bind fun x st => (ev C b ρ st).bind fun y st => (cmpD o x y st).bind fun z st => (bOf st z).bind fun k st => if k = true then (ev C c ρ st).bind fun w st => cmpD o' y w st else .ok (.bl false) st := by rw [ev]
@[simp] theorem xs_nil : evs C .nil ρ st = .ok [] st := by rw [evs]
@[simp] theorem xs_cons : evs C (.cons a r) ρ st = (ev C a ρ st).bind fun x st => (evs C r ρ st).bind fun xs st => .ok (x :: xs) st := by rw [evs]
@[simp] theorem xo_none : evO C .none ρ st = .ok none st := by rw [evO]
@[simp] theorem xo_some : evO C (.some a) ρ st = (ev C a ρ st).bind fun x st => (iOf st x).bind fun i st => .ok (some i) st := by rw [evO]
@[simp] theorem y_asg (t : IT) : evS C F (.asg t e) ρ st = (ev C e ρ st).sbind ρ fun x st => match asgT ρ t x with | some ρ' => .ok .nx ρ' st | none => .stuck := by rw [evS] <;> rfl
@[simp] theorem y_expr : evS C F (.expr e) ρ st = (ev C e ρ st).sbind ρ fun _ st => .ok .nx ρ st := by rw [evS]
@[simp] theorem y_ret : evS C F (.ret e) ρ st = (ev C e ρ st).sbind ρ fun x st => .ok (.rt x) ρ st := by rw [evS]
@[simp] theorem y_ite : evS C F (.ite c ss rs) ρ st = (ev C c ρ st).sbind ρ fun x st => (bOf st x).sbind ρ fun k st => if k = true then evSs C F ss ρ st else evSs C F rs ρ st := by rw [evS, evT]; cases ev C c ρ st <;> rfl
@[simp] theorem ys_nil : evSs C F .nil ρ st = .ok .nx ρ st := by rw [evSs]
@[simp] theorem ys_cons : evSs C F (.cons s ss) ρ st = (evS C F s ρ st).then (evSs C F ss) := by rw [evSs]
end
section
variable {st : Sto} {x y : D} {z w : Int} {t u : Tx} {xs ys : List D}
@[simp] theorem o_addI : binD .add (.int z) (.int w) st = .ok (.int (z + w)) st := (rfl)
@[simp] theorem o_subI : binD .sub (.int z) (.int w) st = .ok (.int (z - w)) st := (rfl)
@[simp] theorem o_addS : binD .add (.str t) (.str u) st = if t.length + u.length ≤ LIM then .ok (.str (t ++ u)) st else .stuck := (rfl)
@[simp] theorem o_addT : binD .add (.tup xs) (.tup ys) st = if xs.length + ys.length ≤ LIM then .ok (.tup (xs ++ ys)) st else .stuck := (rfl)
@[simp] theorem o_mulI : binD .mul (.int z) (.int w) st = if (-(2 ^ 64) < z ∧ z < 2 ^ 64) ∨ (-(2 ^ 64) < w ∧ w < 2 ^ 64) then .ok (.int (z * w)) st else .stuck := (rfl)
@[simp] theorem o_lt : cmpD .lt (.int z) (.int w) st = .ok (.bl (decide (z < w))) st := (rfl)
@[simp] theorem o_le : cmpD .le (.int z) (.int w) st = .ok (.bl (decide (z ≤ w))) st := (rfl)
@[simp] theorem o_gt : cmpD .gt (.int z) (.int w) st = .ok (.bl (decide (w < z))) st := (rfl)
@[simp] theorem o_ge : cmpD .ge (.int z) (.int w) st = .ok (.bl (decide (w ≤ z))) st := (rfl)
@[simp] theorem o_eq : cmpD .eq x y st = (ofO st (eqD st x y)).bind fun r st => .ok (.bl r) st := (rfl)
@[simp] theorem o_ne : cmpD .ne x y st = (ofO st (eqD st x y)).bind fun r st => .ok (.bl (!r)) st := (rfl)
@[simp] theorem o_isN : cmpD .isN x .non st = .ok (.bl (decide (x = .non))) st := (rfl)
@[simp] theorem o_notN : cmpD .notN x .non st = .ok (.bl (!decide (x = .non))) st := (rfl)
@[simp] theorem o_mem : cmpD .mem x y st = (ofO st (memD st x y)).bind fun r st => .ok (.bl r) st := (rfl)
@[simp] theorem o_nmem : cmpD .nmem x y st = (ofO st (memD st x y)).bind fun r st => .ok (.bl (!r)) st := (rfl)
@[simp] theorem q_int : eqD st (.int z) (.int w) = some (decide (z = w)) := (rfl)
@[simp] theorem q_str : eqD st (.str t) (.str u) = some (decide (t = u)) := (rfl)
@[simp] theorem q_tupE : eqD st (.tup xs) (.tup []) = some xs.isEmpty := (rfl)
@[simp] theorem m_str {c : Nat} : memD st (.str [c]) (.str u) = some (decide (c ∈ u)) := (rfl)
@[simp] theorem i_tup : ixD (.tup xs) (.int z) st = ofO st (L2.atI xs z) := (rfl)
@[simp] theorem k_int {k : Kd} : isiD (.int z) k st = .ok (.bl (decide (k = .int))) st := by cases k <;> rfl
@[simp] theorem k_str {k : Kd} : isiD (.str t) k st = .ok (.bl (decide (k = .str))) st := by cases k <;> rfl
@[simp] theorem k_tup {k : Kd} : isiD (.tup xs) k st = .ok (.bl (decide (k = .tup))) st := by cases k <;> rfl
@[simp] theorem k_non {k : Kd} : isiD .non k st = .ok (.bl false) st := by cases k <;> rfl
@[simp] theorem l_tup : biD .len (.tup xs) st = .ok (.int xs.length) st := (rfl)
@[simp] theorem l_str : biD .len (.str t) st = if t.length ≤ LIM then .ok (.int t.length) st else .stuck := (rfl)
@[simp] theorem at_0 {α : Type} {x : α} {xs : List α} : L2.atI (x :: xs) 0 = some x := atI_0
@[simp] theorem at_1 {α : Type} {x y : α} {xs : List α} : L2.atI (x :: y :: xs) 1 = some y := by
  have := atI_nat (xs := x :: y :: xs) (i := 1) (x := y) rfl
  exact this
@[simp] theorem at_2 {α : Type} {x y z : α} {xs : List α} : L2.atI (x :: y :: z :: xs) 2 = some z := by
  have := atI_nat (xs := x :: y :: z :: xs) (i := 2) (x := z) rfl
  exact this
@[simp] theorem at_3 {α : Type} {x y z u : α} {xs : List α} : L2.atI (x :: y :: z :: u :: xs) 3 = some u := by
  have := atI_nat (xs := x :: y :: z :: u :: xs) (i := 3) (x := u) rfl
  exact this
@[simp] theorem ag_name {ρ : Env} {i : Nat} : asgT ρ (.name i) x = some (ρ.set i (some x)) := (rfl)
end
/-! plain data: no bools, nothing that may change -/
mutual
def plD : D → Bool
  | .non => true | .int _ => true | .str x => decide (x.length ≤ LIM) && x.all fun c => decide (c < 1114112)
  | .tup xs => plDs xs
  | _ => false
def plDs : List D → Bool
  | [] => true
  | x :: xs => plD x && plDs xs
end
mutual
def pyD : D → PySem.PyData
  | .int i => .int i
  | .str x => .str (sOf x)
  | .tup xs => .tuple (pyDs xs)
  | _ => .none
def pyDs : List D → List PySem.PyData
  | [] => []
  | x :: xs => pyD x :: pyDs xs
end
mutual
theorem toPW_pl {f : Nat → Option PySem.PyData} : ∀ {d : D}, plD d = true → toPW f d = some (pyD d)
  | .non, _ => rfl
  | .int _, _ => rfl
  | .str _, _ => rfl
  | .tup xs, h => by rw [plD] at h; rw [toPW, toPWs_pl h, pyD]
  | .bl _, h => by cases h
  | .loc _, h => by cases h
  | .fl _, h => by cases h
theorem toPWs_pl {f : Nat → Option PySem.PyData} : ∀ {ds : List D}, plDs ds = true → toPWs f ds = some (pyDs ds)
  | [], _ => by rw [toPWs, pyDs]
  | d :: ds, h => by
    rw [plDs, Bool.and_eq_true] at h
    rw [toPWs, toPW_pl h.1, toPWs_pl h.2, pyDs]
end
theorem toP_pl {st : Sto} {n : Nat} {d : D} (h : plD d = true) : toP st n d = some (pyD d) := by
  cases n with
  | zero => exact toPW_pl h
  | succ n => exact toPW_pl h
mutual
theorem eqv_pl : ∀ {a b : D}, plD a = true → plD b = true → PySem.PyData.eqv (pyD a) (pyD b) = decide (a = b)
  | .non, b, _, h => by cases b <;> simp [plD] at h <;> simp [pyD, PySem.PyData.eqv]
  | .int i, b, _, h => by
    cases b <;> simp [plD] at h <;> simp [pyD, PySem.PyData.eqv]
    rename_i j
    by_cases e : i = j <;> simp [e]
  | .str x, b, _, h => by
    cases b <;> simp [plD] at h <;> simp [pyD, PySem.PyData.eqv]
    rename_i y
    by_cases e : x = y
    · simp [e]
    · have : ¬ sOf x = sOf y := fun z => e (by
        have : x.toArray = y.toArray := by injection z
        simpa using this)
      simp [e, this]
  | .tup xs, b, g, h => by
    cases b <;> simp [plD] at h
    · simp [pyD, PySem.PyData.eqv]
    · simp [pyD, PySem.PyData.eqv]
    · simp [pyD, PySem.PyData.eqv]
    · rename_i ys
      rw [plD] at g
      rw [pyD, pyD, PySem.PyData.eqv, eqvs_pl g h]
      by_cases e : xs = ys <;> simp [e]
  | .bl _, b, g, _ => by cases g
  | .loc _, b, g, _ => by cases g
  | .fl _, b, g, _ => by cases g
theorem eqvs_pl : ∀ {a b : List D}, plDs a = true → plDs b = true → PySem.PyData.eqvAll (pyDs a) (pyDs b) = decide (a = b)
  | [], [], _, _ => rfl
  | [], _ :: _, _, _ => by simp [pyDs, PySem.PyData.eqvAll]
  | _ :: _, [], _, _ => by simp [pyDs, PySem.PyData.eqvAll]
  | x :: xs, y :: ys, g, h => by
    rw [plDs, Bool.and_eq_true] at g h
    rw [pyDs, pyDs, PySem.PyData.eqvAll, eqv_pl g.1 h.1, eqvs_pl g.2 h.2]
    by_cases e : x = y <;> by_cases e' : xs = ys <;> simp [e, e']
end
mutual
theorem lay_pl : ∀ {a : D}, plD a = true → (pyD a).canLay0 = true
  | .non, _ => rfl
  | .int _, _ => rfl
  | .str x, h => by
    rw [plD, Bool.and_eq_true] at h
    show PySem.PyData.strOk (sOf x) = true
    unfold PySem.PyData.strOk sOf
    rw [← Array.all_toList, List.toList_toArray]
    exact h.2
  | .tup xs, h => by
    rw [plD] at h
    rw [pyD]
    show PySem.PyData.canLayAll0 (pyDs xs) = true
    exact lays_pl h
  | .bl _, g => by cases g
  | .loc _, g => by cases g
  | .fl _, g => by cases g
theorem lays_pl : ∀ {a : List D}, plDs a = true → PySem.PyData.canLayAll0 (pyDs a) = true
  | [], _ => rfl
  | x :: xs, h => by
    rw [plDs, Bool.and_eq_true] at h
    rw [pyDs, PySem.PyData.canLayAll0, lay_pl h.1, lays_pl h.2]; rfl
end
mutual
theorem dep_pl : ∀ (a : D), (pyD a).depth ≤ depD a
  | .non => by simp [pyD, PySem.PyData.depth, depD]
  | .int _ => by simp [pyD, PySem.PyData.depth, depD]
  | .str x => by simp [pyD, PySem.PyData.depth, depD]
  | .bl x => by simp [pyD, PySem.PyData.depth, depD]
  | .loc x => by simp [pyD, PySem.PyData.depth, depD]
  | .fl x => by simp [pyD, PySem.PyData.depth, depD]
  | .tup xs => by
    rw [pyD, PySem.PyData.depth, depD]
    have := deps_pl xs
    omega
theorem deps_pl : ∀ (a : List D), PySem.PyData.depthAll (pyDs a) ≤ depDs a
  | [] => by simp [pyDs, PySem.PyData.depthAll, depDs]
  | x :: xs => by
    rw [pyDs, PySem.PyData.depthAll, depDs]
    have := dep_pl x
    have := deps_pl xs
    omega
end
theorem eqG_pl {st : Sto} {a b : D} (ha : plD a = true) (hb : plD b = true) (hd : depD a ≤ 60) : eqG st a b = some (decide (a = b)) := by
  unfold eqG
  rw [toP_pl ha, toP_pl hb]
  simp only
  rw [if_pos ⟨lay_pl ha, lay_pl hb, by have := dep_pl a; have h2 : min (pyD a).depth (pyD b).depth ≤ (pyD a).depth := Nat.min_le_left _ _; omega⟩, eqv_pl ha hb]
theorem shaped_pl {a : D} (ha : plD a = true) (hd : depD a ≤ 60) : PySem.SeqAt.shaped (pyD a) = true := by
  unfold PySem.SeqAt.shaped
  rw [lay_pl ha, decide_eq_true (by have := dep_pl a; omega)]; rfl
theorem any_pl {a : D} (ha : plD a = true) : ∀ {xs : List D}, plDs xs = true → ((pyDs xs).any fun z => PySem.PyData.eqv z (pyD a)) = decide (a ∈ xs)
  | [], _ => by simp [pyDs]
  | x :: xs, h => by
    rw [plDs, Bool.and_eq_true] at h
    rw [pyDs, List.any_cons, eqv_pl h.1 ha, any_pl ha h.2]
    by_cases e : x = a
    · simp [e]
    · have e' : ¬ a = x := fun z => e z.symm
      by_cases e2 : a ∈ xs <;> simp [e, e', e2]
theorem memS_pl {st : Sto} {a : D} {xs : List D} (ha : plD a = true) (hx : plDs xs = true) (hd : depD a ≤ 60) (hd2 : depDs xs ≤ 59) : memS st a xs = some (decide (a ∈ xs)) := by
  unfold memS
  rw [toP_pl ha, toP_pl (d := .tup xs) (by rw [plD]; exact hx), pyD]
  simp only
  have h2 := shaped_pl (a := .tup xs) (by rw [plD]; exact hx) (by rw [depD]; omega)
  rw [pyD] at h2
  rw [if_pos ⟨shaped_pl ha hd, h2⟩, any_pl ha hx]
end Z
/-! rows for `simp`: what the operations do at a place of the store -/
namespace Z
@[simp] theorem R_bind_exc {α β : Type} (e : Ex) (st : Sto) (f : α → Sto → R β) : (R.exc e st : R α).bind f = .exc e st := (rfl)
@[simp] theorem R_sbind_exc {α : Type} (ρ : Env) (e : Ex) (st : Sto) (f : α → Sto → SR) : (R.exc e st : R α).sbind ρ f = .exc e ρ st := (rfl)
@[simp] theorem SR_then_exc (e : Ex) (ρ : Env) (st : Sto) (f : Env → Sto → SR) : (SR.exc e ρ st).then f = .exc e ρ st := (rfl)
@[simp] theorem SR_then_bk (ρ : Env) (st : Sto) (f : Env → Sto → SR) : (SR.ok .bk ρ st).then f = .ok .bk ρ st := (rfl)
@[simp] theorem SR_then_ct (ρ : Env) (st : Sto) (f : Env → Sto → SR) : (SR.ok .ct ρ st).then f = .ok .ct ρ st := (rfl)
@[simp] theorem runB_exc (e : Ex) (ρ : Env) (st : Sto) : runB (.exc e ρ st) = .exc e st := (rfl)
section
variable {C : Cl} {ρ : Env} {st : Sto} {a b c i e : IE} {es : IEs} {ss : ISs} {F n m : Nat} {x y d : D} {z w : Int} {t u : Tx} {xs ys : List D} {lo hi : Option Int}
@[simp] theorem y_seti : evS C F (.seti a i e) ρ st = (ev C e ρ st).sbind ρ fun y st => (ev C a ρ st).sbind ρ fun x st => (ev C i ρ st).sbind ρ fun k st => match x, k with
    | .loc n, .int i => (match st[n]? with
      | some (.lst xs) => (match L2.ixN xs.length i with | some j => .ok .nx ρ (st.set n (.lst (xs.set j y))) | none => .stuck)
      | some (.dck kvs) => if kvs.length < LIM then .ok .nx ρ (st.set n (.dck (dPut kvs k y))) else .stuck
      | _ => .stuck)
    | .loc n, .str _ => (match st[n]? with
      | some (.dck kvs) => if kvs.length < LIM then .ok .nx ρ (st.set n (.dck (dPut kvs k y))) else .stuck
      | _ => .stuck)
    | .loc n, .tup _ => (match st[n]? with
      | some (.dct kvs) => if keyT k = true ∧ kvs.length < LIM then .ok .nx ρ (st.set n (.dct (dPut kvs k y))) else .stuck
      | _ => .stuck)
    | _, _ => .stuck := by rw [evS] <;> rfl
@[simp] theorem y_setf {f : PySem.Str} : evS C F (.setf a f e) ρ st = (ev C e ρ st).sbind ρ fun y st => (ev C a ρ st).sbind ρ fun x st => match x with
    | .loc n => (match st[n]? with | some (.ins c fs) => if fs.length < 1000 then .ok .nx ρ (st.set n (.ins c (putF' f y fs))) else .stuck | _ => .stuck)
    | _ => .stuck := by rw [evS] <;> rfl
@[simp] theorem y_retN : evS C F .retN ρ st = .ok (.rt .non) ρ st := by rw [evS]
@[simp] theorem y_pass : evS C F .pass ρ st = .ok .nx ρ st := by rw [evS]
@[simp] theorem y_brk : evS C F .brk ρ st = .ok .bk ρ st := by rw [evS]
@[simp] theorem y_cont : evS C F .cont ρ st = .ok .ct ρ st := by rw [evS]
@[simp] theorem x_mk {c : Nat} : ev C (.mk c es) ρ st = (evs C es ρ st).bind fun ds st => match C.ini c with
    | some f => (C.call f (.loc st.length :: ds) (st ++ [.ins c []])).bind fun r st' => if r = .non then .ok (.loc st.length) st' else .stuck
    | none => .stuck := by rw [ev] <;> rfl
@[simp] theorem x_om {nm : PySem.Str} : ev C (.om nm m a es) ρ st = (ev C a ρ st).bind fun x st => match x with
    | .loc n => (match st[n]? with
      | some (.ins c fs) => (match C.meth c m, fs.lookup nm with
        | some f, none => (evs C es ρ st).bind fun ds st => C.call f (.loc n :: ds) st
        | _, _ => .stuck)
      | _ => .stuck)
    | _ => .stuck := by rw [ev] <;> rfl
@[simp] theorem x_lrng1 : ev C (.lrng1 a) ρ st = (ev C a ρ st).bind fun x st => (iOf st x).bind fun i st => if 0 ≤ i ∧ i ≤ 100000 then .ok (.loc st.length) (st ++ [.lst (rngW 0 i.toNat).xs]) else .stuck := by rw [ev]
@[simp] theorem x_lrng2 : ev C (.lrng2 a b) ρ st = (ev C a ρ st).bind fun x st => (ev C b ρ st).bind fun y st => (iOf st x).bind fun i st => (iOf st y).bind fun j st =>
      if 0 ≤ i ∧ i ≤ 100000 ∧ 0 ≤ j ∧ j ≤ 100000 then .ok (.loc st.length) (st ++ [.lst (rngW i (j - i).toNat).xs]) else .stuck := by rw [ev]
@[simp] theorem xi_it : evI C (.it a) ρ st = (ev C a ρ st).bind fun x st => wkD x st := by rw [evI]
@[simp] theorem xi_rng1 : evI C (.rng1 a) ρ st = (ev C a ρ st).bind fun x st => (iOf st x).bind fun i st => if iLim i then .ok (rngW 0 i.toNat) st else .stuck := by rw [evI]
@[simp] theorem xi_rng2 : evI C (.rng2 a b) ρ st = (ev C a ρ st).bind fun x st => (ev C b ρ st).bind fun y st => (iOf st x).bind fun i st => (iOf st y).bind fun j st => if iLim i ∧ iLim j then .ok (rngW i (j - i).toNat) st else .stuck := by rw [evI]
@[simp] theorem xi_enum : evI C (.enum a) ρ st = (ev C a ρ st).bind fun x st => match x with
    | .loc _ => (wkD x st).bind fun w st => .ok w.enum st
    | .fl _ => (wkD x st).bind fun w st => .ok w.enum st
    | _ => .stuck := by rw [evI] <;> rfl
@[simp] theorem y_for {tg : IT} {it : II} : evS C F (.for_ tg it ss) ρ st = (evI C it ρ st).sbind ρ fun w st => loopF w tg (evSs C F ss) w.xs ρ st := by rw [evS]
@[simp] theorem y_whl : evS C F (.whl c ss) ρ st = loopW (evT C c) (evSs C F ss) F ρ st := by rw [evS]
theorem x_comp {e : IE} {tg : IT} {own : List Nat} {it : II} {co : IO} : ev C (.comp e tg own it co) ρ st = (evI C it ρ st).bind fun w st => ((compL w (turnC C tg own co e ρ) w.xs st).noex).bind fun ys st => if ys.length ≤ LIM then .ok (.loc st.length) (st ++ [.lst ys]) else .stuck := by rw [ev] <;> rfl
@[simp] theorem w_tup : wkD (.tup xs) st = .ok ⟨xs, none⟩ st := (rfl)
@[simp] theorem w_fl : wkD (.fl xs) st = .ok ⟨xs, none⟩ st := (rfl)
@[simp] theorem w_loc : wkD (.loc n) st = (match st[n]? with | some (.lst xs) => .ok ⟨xs, some (n, .lst xs)⟩ st | _ => .stuck) := (rfl)
/-- operators -/
@[simp] theorem o_fdivI : binD .fdiv (.int z) (.int w) st = if 0 < w ∧ w < 1073741824 then .ok (.int (z / w)) st else .stuck := (rfl)
@[simp] theorem o_modI : binD .mod (.int z) (.int w) st = if 0 < w then .ok (.int (z % w)) st else .stuck := (rfl)
@[simp] theorem o_mulT : binD .mul (.tup xs) (.int z) st = if xs ≠ [] ∧ 2 ≤ z ∧ z ≤ 1000 ∧ xs.length ≤ 1000 then .ok (.tup (List.replicate z.toNat xs).flatten) st else .stuck := (rfl)
@[simp] theorem o_addL : binD .add (.loc n) (.loc m) st = (match st[n]?, st[m]? with
    | some (.lst x), some (.lst y) => if x.length + y.length ≤ LIM then .ok (.loc st.length) (st ++ [.lst (x ++ y)]) else .stuck
    | _, _ => .stuck) := (rfl)
@[simp] theorem q_bl {p q : Bool} : eqD st (.bl p) (.bl q) = some (decide (p = q)) := (rfl)
@[simp] theorem q_loc : eqD st (.loc n) (.loc m) = (match st[n]?, st[m]? with
    | some (.lst xs), some (.lst []) => some xs.isEmpty
    | _, _ => eqG st (.loc n) (.loc m)) := (rfl)
@[simp] theorem i_loc : ixD (.loc n) (.int z) st = (match st[n]? with | some (.lst xs) => ofO st (L2.atI xs z) | some (.dck kvs) => ofO st (dGet kvs (.int z)) | _ => .stuck) := by
  show (match st[n]? with | some (.dct kvs) => if keyT (.int z) = true then ofO st (dGet kvs (.int z)) else .stuck | some (.dck kvs) => if keyK (.int z) = true then ofO st (dGet kvs (.int z)) else .stuck | _ => ixS (.loc n) (.int z) st) = _
  cases h : st[n]? with
  | none => simp [ixS, seqD, h, ofO, R.bind]
  | some c => cases c <;> simp [ixS, seqD, h, ofO, R.bind, keyT, keyK]
@[simp] theorem i_locS : ixD (.loc n) (.str t) st = (match st[n]? with | some (.dck kvs) => ofO st (dGet kvs (.str t)) | _ => .stuck) := by
  show (match st[n]? with | some (.dct kvs) => if keyT (.str t) = true then ofO st (dGet kvs (.str t)) else .stuck | some (.dck kvs) => if keyK (.str t) = true then ofO st (dGet kvs (.str t)) else .stuck | _ => ixS (.loc n) (.str t) st) = _
  cases h : st[n]? with
  | none => first | rfl | (simp only [h]; done) | (simp only [h]; rfl)
  | some c => cases c <;> first | rfl | (simp only [h]; done) | (simp only [h]; rfl)
@[simp] theorem i_locT : ixD (.loc n) (.tup xs) st = (match st[n]? with | some (.dct kvs) => if keyT (.tup xs) = true then ofO st (dGet kvs (.tup xs)) else .stuck | _ => .stuck) := by
  show (match st[n]? with | some (.dct kvs) => if keyT (.tup xs) = true then ofO st (dGet kvs (.tup xs)) else .stuck | some (.dck kvs) => if keyK (.tup xs) = true then ofO st (dGet kvs (.tup xs)) else .stuck | _ => ixS (.loc n) (.tup xs) st) = _
  cases h : st[n]? with
  | none => first | rfl | (simp only [h]; done) | (simp only [h]; rfl)
  | some c => cases c <;> first | rfl | (simp only [h]; done) | (simp only [h]; rfl)
@[simp] theorem i_str : ixD (.str t) (.int z) st = if t.length ≤ LIM then (ofO st (L2.atI t z)).bind fun c st => .ok (.str [c]) st else .stuck := (rfl)
@[simp] theorem s_str : slD (.str t) lo hi st = if t.length ≤ LIM then .ok (.str (cutD t lo hi)) st else .stuck := (rfl)
@[simp] theorem s_tup : slD (.tup xs) lo hi st = .ok (.tup (cutD xs lo hi)) st := (rfl)
@[simp] theorem s_loc : slD (.loc n) lo hi st = (match st[n]? with | some (.lst xs) => .ok (.loc st.length) (st ++ [.lst (cutD xs lo hi)]) | _ => .stuck) := by
  show (ofO st (lstD st (.loc n))).bind _ = _
  unfold lstD
  cases h : st[n]? with
  | none => first | rfl | (simp only [h]; done) | (simp only [h]; rfl)
  | some c => cases c <;> first | rfl | (simp only [h]; done) | (simp only [h]; rfl)
@[simp] theorem v_loc : revD (.loc n) st = (match st[n]? with | some (.lst xs) => .ok (.loc st.length) (st ++ [.lst xs.reverse]) | _ => .stuck) := by
  show (ofO st (lstD st (.loc n))).bind _ = _
  unfold lstD
  cases h : st[n]? with
  | none => first | rfl | (simp only [h]; done) | (simp only [h]; rfl)
  | some c => cases c <;> first | rfl | (simp only [h]; done) | (simp only [h]; rfl)
@[simp] theorem v_tup : revD (.tup xs) st = .ok (.tup xs.reverse) st := (rfl)
@[simp] theorem v_str : revD (.str t) st = if t.length ≤ LIM then .ok (.str t.reverse) st else .stuck := (rfl)
@[simp] theorem m_loc : memD st x (.loc n) = (match st[n]? with
    | some (.lst xs) => memS st x xs
    | some (.dct kvs) => if keyT x = true then some (dGet kvs x).isSome else none
    | some (.dck kvs) => if keyK x = true then some (dGet kvs x).isSome else none
    | _ => none) := (rfl)
@[simp] theorem f_loc {f : PySem.Str} : fldD (.loc n) f st = (match st[n]? with | some (.ins _ fs) => ofO st (fs.lookup f) | _ => .stuck) := (rfl)
@[simp] theorem k_bl {k : Kd} {p : Bool} : isiD (.bl p) k st = .ok (.bl (decide (k = .bool ∨ k = .int))) st := by cases k <;> rfl
@[simp] theorem k_loc {k : Kd} : isiD (.loc n) k st = (match st[n]? with | some (.lst _) => .ok (.bl (decide (k = .lst))) st | _ => .stuck) := by
  show (ofO st (kindD st (.loc n))).bind _ = _
  unfold kindD
  cases h : st[n]? with
  | none => first | rfl | (simp only [h]; done) | (simp only [h]; rfl)
  | some c => cases c <;> cases k <;> first | rfl | (simp only [h]; done) | (simp only [h]; rfl)
@[simp] theorem l_loc : biD .len (.loc n) st = (match st[n]? with | some (.lst xs) => .ok (.int xs.length) st | _ => .stuck) := by
  show (ofO st (seqD st (.loc n))).bind _ = _
  unfold seqD
  cases h : st[n]? with
  | none => first | rfl | (simp only [h]; done) | (simp only [h]; rfl)
  | some c => cases c <;> first | rfl | (simp only [h]; done) | (simp only [h]; rfl)
@[simp] theorem l_fl : biD .len (.fl xs) st = .ok (.int xs.length) st := (rfl)
@[simp] theorem b_intI : biD .int (.int z) st = .ok (.int z) st := (rfl)
@[simp] theorem b_intB {p : Bool} : biD .int (.bl p) st = .ok (.int (if p then 1 else 0)) st := (rfl)
@[simp] theorem b_intS : biD .int (.str t) st = (ofO st (digitT t)).bind fun i st => .ok (.int i) st := (rfl)
@[simp] theorem b_strI : biD .str (.int z) st = if 0 ≤ z ∧ z < 10 then .ok (.str [48 + z.toNat]) st else .stuck := (rfl)
@[simp] theorem b_strS : biD .str (.str t) st = .ok (.str t) st := (rfl)
@[simp] theorem b_listT : biD .list (.tup xs) st = .ok (.loc st.length) (st ++ [.lst xs]) := (rfl)
@[simp] theorem b_listF : biD .list (.fl xs) st = .ok (.loc st.length) (st ++ [.lst xs]) := (rfl)
@[simp] theorem b_listS : biD .list (.str t) st = if t.length ≤ LIM then .ok (.loc st.length) (st ++ [.lst (t.map fun c => D.str [c])]) else .stuck := (rfl)
@[simp] theorem b_listL : biD .list (.loc n) st = (match st[n]? with | some (.lst xs) => .ok (.loc st.length) (st ++ [.lst xs]) | _ => .stuck) := by
  show (ofO st (seqD st (.loc n))).bind _ = _
  unfold seqD
  cases h : st[n]? with
  | none => first | rfl | (simp only [h]; done) | (simp only [h]; rfl)
  | some c => cases c <;> first | rfl | (simp only [h]; done) | (simp only [h]; rfl)
@[simp] theorem b_tupT : biD .tuple (.tup xs) st = .ok (.tup xs) st := (rfl)
@[simp] theorem b_tupL : biD .tuple (.loc n) st = (match st[n]? with | some (.lst xs) => .ok (.tup xs) st | _ => .stuck) := by
  show (ofO st (seqD st (.loc n))).bind _ = _
  unfold seqD
  cases h : st[n]? with
  | none => first | rfl | (simp only [h]; done) | (simp only [h]; rfl)
  | some c => cases c <;> first | rfl | (simp only [h]; done) | (simp only [h]; rfl)
@[simp] theorem b_sumL : biD .sum (.loc n) st = (match st[n]? with | some (.lst xs) => (ofO st (intsD xs)).bind fun ns st => .ok (.int ns.sum) st | _ => .stuck) := by
  show (ofO st (lstD st (.loc n))).bind _ = _
  unfold lstD
  cases h : st[n]? with
  | none => first | rfl | (simp only [h]; done) | (simp only [h]; rfl)
  | some c => cases c <;> first | rfl | (simp only [h]; done) | (simp only [h]; rfl)
/-- methods -/
theorem recv_loc {me : Me} (h : me ≠ .join ∧ me ≠ .split) : recvOk me st (.loc n) = (match st[n]? with | some (.lst _) => true | _ => false) := by
  have e : recvOk me st (.loc n) = decide (kindD st (.loc n) = some (some .lst)) := by cases me <;> first | exact absurd rfl h.1 | exact absurd rfl h.2 | rfl
  rw [e]
  unfold kindD
  cases h : st[n]? with
  | none => first | rfl | (simp only [h]; done) | (simp only [h]; rfl)
  | some c => cases c <;> first | rfl | (simp only [h]; done) | (simp only [h]; rfl)
@[simp] theorem rc_append : recvOk .append st (.loc n) = (match st[n]? with | some (.lst _) => true | _ => false) := recv_loc (by decide)
@[simp] theorem rc_pop : recvOk .pop st (.loc n) = (match st[n]? with | some (.lst _) => true | _ => false) := recv_loc (by decide)
@[simp] theorem rc_extend : recvOk .extend st (.loc n) = (match st[n]? with | some (.lst _) => true | _ => false) := recv_loc (by decide)
@[simp] theorem rc_index : recvOk .index st (.loc n) = (match st[n]? with | some (.lst _) => true | _ => false) := recv_loc (by decide)
@[simp] theorem rc_join : recvOk .join st (.str t) = true := (rfl)
@[simp] theorem rc_clear : recvOk .clear st (.loc n) = (match st[n]? with | some (.lst _) => true | _ => false) := recv_loc (by decide)
@[simp] theorem rc_split : recvOk .split st (.str t) = true := (rfl)
@[simp] theorem me_split {c : Nat} : me1D .split (.str t) (.str [c]) st = if c < 256 ∧ t.length + 2 ≤ LIM then .ok (.loc st.length) (st ++ [.lst ((splitT c t).map D.str)]) else .stuck := (rfl)
@[simp] theorem me_clear : me0D .clear (.loc n) st = (match st[n]? with | some (.lst _) => .ok .non (st.set n (.lst [])) | _ => .stuck) := (rfl)
@[simp] theorem me_pop : me0D .pop (.loc n) st = (match st[n]? with
    | some (.lst xs) => (match xs.getLast? with | some x => .ok x (st.set n (.lst xs.dropLast)) | none => .stuck)
    | _ => .stuck) := (rfl)
@[simp] theorem me_append : me1D .append (.loc n) y st = (match st[n]? with
    | some (.lst xs) => if xs.length < LIM then .ok .non (st.set n (.lst (xs ++ [y]))) else .stuck
    | _ => .stuck) := (rfl)
@[simp] theorem me_popAt : me1D .pop (.loc n) (.int z) st = (match st[n]? with
    | some (.lst xs) => (match L2.ixN xs.length z with
      | some k => (match xs[k]? with | some x => if xs.length ≤ LIM then .ok x (st.set n (.lst (xs.eraseIdx k))) else .stuck | none => .stuck)
      | none => .stuck)
    | _ => .stuck) := by
  cases h : st[n]? with
  | none => simp [me1D, h]
  | some c => cases c <;> simp [me1D, h] <;> rfl
@[simp] theorem me_extend : me1D .extend (.loc n) (.loc m) st = (match st[n]?, st[m]? with
      | some (.lst xs), some (.lst ys) => if xs.length + ys.length ≤ LIM then .ok .non (st.set n (.lst (xs ++ ys))) else .stuck
      | _, _ => .stuck) := (rfl)
@[simp] theorem me_extendT : me1D .extend (.loc n) (.tup ys) st = (match st[n]? with
      | some (.lst xs) => if xs.length + ys.length ≤ LIM then .ok .non (st.set n (.lst (xs ++ ys))) else .stuck
      | _ => .stuck) := (rfl)
@[simp] theorem me_join : me1D .join (.str t) (.loc n) st = (match st[n]? with
    | some (.lst xs) => (ofO st (strsD xs)).bind fun ys st => if (ys.map List.length).sum + ys.length * t.length ≤ LIM then .ok (.str (joinT t ys)) st else .stuck
    | _ => .stuck) := by
  show (ofO st (seqD st (.loc n))).bind _ = _
  unfold seqD
  cases h : st[n]? with
  | none => first | rfl | (simp only [h]; done) | (simp only [h]; rfl)
  | some c => cases c <;> first | rfl | (simp only [h]; done) | (simp only [h]; rfl)
@[simp] theorem ag_tup {is : List Nat} : asgT ρ (.tup is) (.tup xs) = if xs.length = is.length then some ((is.zip xs).foldl (fun ρ p => ρ.set p.1 (some p.2)) ρ) else none := (rfl)
@[simp] theorem ixN_zero {n : Nat} : L2.ixN (n + 1) 0 = some 0 := ixN_0
@[simp] theorem ixN_one {n : Nat} : L2.ixN (n + 2) 1 = some 1 := by
  unfold L2.ixN
  rw [if_pos (by decide), if_pos (by omega)]; rfl
theorem ixN_nat {n i : Nat} (h : i < n) : L2.ixN n (i : Int) = some i := by
  unfold L2.ixN
  rw [if_pos (by omega), if_pos (by omega)]; rfl
@[simp] theorem cl_non {k : Nat} : clD k .non = true := (rfl)
@[simp] theorem cl_bl {k : Nat} {p : Bool} : clD k (.bl p) = true := (rfl)
@[simp] theorem cl_int {k : Nat} : clD k (.int z) = true := (rfl)
@[simp] theorem cl_str {k : Nat} : clD k (.str t) = true := (rfl)
@[simp] theorem cl_tup {k : Nat} : clD k (.tup xs) = clDs k xs := by rw [clD]
@[simp] theorem cls_nil {k : Nat} : clDs k [] = true := (rfl)
@[simp] theorem cls_cons {k : Nat} : clDs k (x :: xs) = (clD k x && clDs k xs) := by rw [clDs]
@[simp] theorem LIM_eq : LIM = 100000 := (rfl)
@[simp] theorem rng_l {lo : Int} {n : Nat} : (rngW lo n).l = none := (rfl)
@[simp] theorem stays_none {xs : List D} : (Wk.mk xs none).stays st = true := (rfl)
@[simp] theorem stays_rng {lo : Int} {n : Nat} : (rngW lo n).stays st = true := (rfl)
end
theorem split_join {c : Nat} {parts : List Tx} (hne : parts ≠ []) (h : ∀ p ∈ parts, c ∉ p) : splitT c (joinT [c] parts) = parts := by
  have e : joinT [c] parts = TL.joinL [c] parts := by
    clear hne h
    induction parts with
    | nil => rfl
    | cons x r ih => cases r with
      | nil => rfl
      | cons y r => show x ++ [c] ++ joinT [c] (y :: r) = _; rw [ih]; simp [TL.joinL]
  rw [e]
  exact SX.spl_join hne h
end Z
/-! the draws' box; stores by their ends -/
namespace Z
structure Bx where
  ns : List Int
  s : Int
  few : ns.length ≤ 63
/-- the box stands at 0, its numbers at 1 -/
def bx (β : Bx) (r : Sto) : Sto := .lst [.loc 1, .int β.s] :: .lst (β.ns.map D.int) :: r
section
variable {β γ : Bx} {r l : Sto} {n : Nat} {c : Cell}
@[simp] theorem bx_len : (bx β r).length = r.length + 2 := (rfl)
@[simp] theorem bx_app : bx β r ++ l = bx β (r ++ l) := (rfl)
@[simp high] theorem bx_get : (bx β r)[n + 2]? = r[n]? := (rfl)
@[simp] theorem bx_set : (bx β r).set (n + 2) c = bx β (r.set n c) := (rfl)
@[simp high] theorem bx_0 : (bx β r)[0]? = some (.lst [.loc 1, .int β.s]) := (rfl)
@[simp high] theorem bx_1 : (bx β r)[1]? = some (.lst (β.ns.map D.int)) := (rfl)
@[simp high] theorem bx_s1 {ns : List Int} {s s' : Int} {few} : (bx ⟨ns, s, few⟩ r).set 0 (.lst [.loc 1, .int s']) = bx ⟨ns, s', few⟩ r := (rfl)
@[simp high] theorem bx_s0 {ns : List Int} {s n n' : Int} {few} : (bx ⟨n :: ns, s, few⟩ r).set 1 (.lst (.int n' :: ns.map D.int)) = bx ⟨n' :: ns, s, few⟩ r := (rfl)
@[simp high] theorem bx_sp {ns : List Int} {s n : Int} {few} : (bx ⟨n :: ns, s, few⟩ r).set 1 (.lst (ns.map D.int)) = bx ⟨ns, s, Nat.le_of_succ_le few⟩ r := (rfl)
variable {st : Sto} {m : Nat}
@[simp high] theorem bx_get2 {a b : Nat} : (bx β r)[a + (b + 2)]? = r[a + b]? := (rfl)
@[simp high] theorem bx_set2 {a b : Nat} : (bx β r).set (a + (b + 2)) c = bx β (r.set (a + b) c) := (rfl)
@[simp high] theorem cons_get2 {a b : Nat} : (c :: r)[a + (b + 1)]? = r[a + b]? := (rfl)
@[simp high] theorem cons_set2 {a b : Nat} {d : Cell} : (c :: r).set (a + (b + 1)) d = c :: r.set (a + b) d := (rfl)
@[simp high] theorem end_0 : (st ++ l)[st.length]? = l[0]? := by rw [List.getElem?_append_right (Nat.le_refl _), Nat.sub_self]
@[simp high] theorem end_n : (st ++ l)[st.length + n]? = l[n]? := by rw [List.getElem?_append_right (by omega), Nat.add_sub_cancel_left]
@[simp] theorem ends_0 : (st ++ l).set st.length c = st ++ l.set 0 c := by rw [List.set_append_right _ _ (Nat.le_refl _), Nat.sub_self]
@[simp] theorem ends_n : (st ++ l).set (st.length + n) c = st ++ l.set n c := by rw [List.set_append_right _ _ (by omega), Nat.add_sub_cancel_left]
theorem oldOk_bx {d : Sto} : OldOk (bx β r) (bx γ (r ++ d)) := fun i hi => by
  match i with
  | 1 => exact .inr (by rw [bx_1, Option.map_some]; show some (clDs _ _) = _; rw [clDs_ints])
  | 0 => exact .inr (by rw [bx_0, Option.map_some]; simp [clC, clDs, clD])
  | n + 2 => exact .inl (by simp only [bx_get]; exact List.getElem?_append_left (by simpa using hi))
theorem fin_bx {d : D} {g : Sto} (h : clD 0 d = true) : finish (bx β r) (.ok d (bx γ (r ++ g))) = .ok d (bx γ r) := by
  rw [finish_old oldOk_bx (all_mono (Nat.zero_le _) (clD_locs h))]
  simp [bx]
theorem fin_bxs {d : D} {g : Sto} {k : Nat} (hc : clC (r.length + 2) c = true) (h : clD 0 d = true) : finish (bx β r) (.ok d (bx γ (r.set k c ++ g))) = .ok d (bx γ (r.set k c)) := by
  have ho : OldOk (bx β r) (bx γ (r.set k c ++ g)) := fun i hi => by
    match i with
    | 1 => exact .inr (by rw [bx_1, Option.map_some]; show some (clDs _ _) = _; rw [clDs_ints])
    | 0 => exact .inr (by rw [bx_0, Option.map_some]; simp [clC, clDs, clD])
    | n + 2 =>
      have hn : n < r.length := by simpa using hi
      rw [bx_get, bx_get, List.getElem?_append_left (by rw [List.length_set]; exact hn)]
      by_cases e : k = n
      · subst e
        right
        rw [List.getElem?_set_self hn, Option.map_some, bx_len, hc]
      · left
        rw [List.getElem?_set_ne e]
  rw [finish_old ho (all_mono (Nat.zero_le _) (clD_locs h))]
  simp [bx]
/-- .. that hands back a new list -/
theorem fin_bxL {g : Sto} {j : Nat} (hc : g[j]? = some c) (h : locsC c = []) : finish (bx β r) (.ok (.loc (r.length + (j + 2))) (bx γ (r ++ g))) = .ok (.loc (r.length + 2)) (bx γ (r ++ [c])) := by
  have e : (bx γ (r ++ g))[r.length + (j + 2)]? = some c := by
    rw [← Nat.add_assoc, bx_get, end_n]; exact hc
  rw [finish_one oldOk_bx (by simp) e (by rw [h]; rfl)]
  simp [bx]
theorem fin_bx0 {d : D} (h : clD 0 d = true) : finish (bx β r) (.ok d (bx γ r)) = .ok d (bx γ r) := by
  have := fin_bx (β := β) (γ := γ) (r := r) (g := []) h
  rwa [List.append_nil] at this
end
section
variable {C : Cl} {ρ : Env} {st s1 : Sto} {e a : IE} {tg : IT} {own : List Nat} {it : II} {co : IO} {w : Wk} {x : D}
@[simp] theorem turnC_eq : turnC C tg own co e ρ x st = (match asgT (wipeE ρ own) tg x with
      | some ρ' => (evC C co ρ' st).bind fun k st => if k = true then (ev C e ρ' st).bind fun y st => .ok (some y) st else .ok none st
      | none => .stuck) := (rfl)
@[simp] theorem xc_none : evC C .none ρ st = .ok true st := by rw [evC]
@[simp] theorem xc_some : evC C (.some a) ρ st = (ev C a ρ st).bind fun x st => bOf st x := by rw [evC]
@[simp] theorem wipe_nil : wipeE ρ [] = ρ := (rfl)
@[simp] theorem wipe_cons {v : Nat} {vs : List Nat} : wipeE ρ (v :: vs) = (wipeE ρ vs).set v none := (rfl)
/-- a comprehension that leaves the store -/
theorem compL_filt {α : Type} {f : D → Sto → R (Option D)} {u v : α → D} {p : α → Bool} (hw : w.stays st = true) : ∀ (l : List α), (∀ a ∈ l, f (u a) st = .ok (if p a = true then some (v a) else none) st) → compL w f (l.map u) st = .ok ((l.filter p).map v) st
  | [], _ => by rw [List.map_nil]; unfold compL; rw [if_pos hw]; rfl
  | a :: l, h => by
    rw [List.map_cons]
    unfold compL
    rw [if_pos hw, h a List.mem_cons_self, R_bind_ok, compL_filt hw l fun y hy => h y (List.mem_cons_of_mem _ hy), R_bind_ok]
    by_cases hp : p a = true
    · rw [if_pos hp, List.filter_cons_of_pos hp, List.map_cons]
    · rw [if_neg hp, List.filter_cons_of_neg hp]
theorem comp_filt {α : Type} {u v : α → D} {p : α → Bool} {l : List α} (hit : evI C it ρ st = .ok w s1) (hw : w.stays s1 = true) (hx : w.xs = l.map u) (hl : l.length ≤ LIM)
    (h : ∀ a ∈ l, turnC C tg own co e ρ (u a) s1 = .ok (if p a = true then some (v a) else none) s1) : ev C (.comp e tg own it co) ρ st = .ok (.loc s1.length) (s1 ++ [.lst ((l.filter p).map v)]) := by
  rw [x_comp, hit, R_bind_ok, hx, compL_filt hw l h, R_noex_ok, R_bind_ok, if_pos]
  rw [List.length_map]
  exact Nat.le_trans (List.length_filter_le _ _) hl
theorem comp_map {α : Type} {u v : α → D} {l : List α} (hit : evI C it ρ st = .ok w s1) (hw : w.stays s1 = true) (hx : w.xs = l.map u) (hl : l.length ≤ LIM)
    (h : ∀ a ∈ l, turnC C tg own co e ρ (u a) s1 = .ok (some (v a)) s1) : ev C (.comp e tg own it co) ρ st = .ok (.loc s1.length) (s1 ++ [.lst (l.map v)]) := by
  have := comp_filt (p := fun _ => true) (v := v) hit hw hx hl (fun a ha => h a ha)
  rwa [List.filter_eq_self.mpr (fun _ _ => rfl)] at this
/-- .. over range(n) -/
theorem comp_rng {v : Nat → D} {n : Nat} (hit : evI C it ρ st = .ok (rngW 0 n) s1) (hl : n ≤ LIM)
    (h : ∀ i : Nat, i < n → turnC C tg own co e ρ (.int (i : Int)) s1 = .ok (some (v i)) s1) : ev C (.comp e tg own it co) ρ st = .ok (.loc s1.length) (s1 ++ [.lst ((List.range n).map v)]) := by
  refine comp_map (u := fun (i : Nat) => D.int (0 + (i : Int))) hit rfl rfl (by rwa [List.length_range]) fun i hi => ?_
  rw [Int.zero_add]
  exact h i (List.mem_range.mp hi)
theorem comp_rngf {v : Nat → D} {p : Nat → Bool} {n : Nat} (hit : evI C it ρ st = .ok (rngW 0 n) s1) (hl : n ≤ LIM)
    (h : ∀ i : Nat, i < n → turnC C tg own co e ρ (.int (i : Int)) s1 = .ok (if p i = true then some (v i) else none) s1) : ev C (.comp e tg own it co) ρ st = .ok (.loc s1.length) (s1 ++ [.lst (((List.range n).filter p).map v)]) := by
  refine comp_filt (u := fun (i : Nat) => D.int (0 + (i : Int))) hit rfl rfl (by rwa [List.length_range]) fun i hi => ?_
  rw [Int.zero_add]
  exact h i (List.mem_range.mp hi)
theorem loop_nil {b : Env → Sto → SR} (hw : w.stays st = true) : loopF w tg b [] ρ st = .ok .nx ρ st := by unfold loopF; rw [if_pos hw]
theorem loop_cons {b : Env → Sto → SR} {xs : List D} {ρ1 ρ2 : Env} {st2 : Sto} {r : SR} (hw : w.stays st = true) (ha : asgT ρ tg x = some ρ1) (hb : b ρ1 st = .ok .nx ρ2 st2) (hr : loopF w tg b xs ρ2 st2 = r) : loopF w tg b (x :: xs) ρ st = r := by
  unfold loopF; rw [if_pos hw, ha]; simp only; rw [hb]; exact hr
theorem set_same {c : Cell} {n : Nat} (h : st[n]? = some c) : st.set n c = st := by
  refine List.ext_getElem? fun i => ?_
  by_cases hi : i = n
  · subst hi; rw [set_here h, h]
  · rw [List.getElem?_set_ne (Ne.symm hi)]
theorem compL_nil {f : D → Sto → R (Option D)} (hw : w.stays st = true) : compL w f [] st = .ok [] st := by unfold compL; rw [if_pos hw]
theorem compL_cons {f : D → Sto → R (Option D)} {xs ys : List D} {y : D} {s2 : Sto} (hw : w.stays st = true) (hf : f x st = .ok (some y) s1) (hr : compL w f xs s1 = .ok ys s2) : compL w f (x :: xs) st = .ok (y :: ys) s2 := by
  unfold compL; rw [if_pos hw, hf, R_bind_ok, hr]; rfl
theorem compL_skip {f : D → Sto → R (Option D)} {xs ys : List D} {s2 : Sto} (hw : w.stays st = true) (hf : f x st = .ok none s1) (hr : compL w f xs s1 = .ok ys s2) : compL w f (x :: xs) st = .ok ys s2 := by
  unfold compL; rw [if_pos hw, hf, R_bind_ok, hr]; rfl
/-- a comprehension by its turns -/
theorem comp_ok {ys : List D} {s2 : Sto} (hit : evI C it ρ st = .ok w s1) (h : compL w (turnC C tg own co e ρ) w.xs s1 = .ok ys s2) (hl : ys.length ≤ LIM) : ev C (.comp e tg own it co) ρ st = .ok (.loc s2.length) (s2 ++ [.lst ys]) := by
  rw [x_comp, hit, R_bind_ok, h, R_noex_ok, R_bind_ok, if_pos hl]
@[simp] theorem stays_w {w : Wk} (h : w.l = none) : w.stays st = true := by unfold Wk.stays; rw [h]
theorem rng_len {n : Nat} : (rngW 0 n).xs.length = n := by simp [rngW]
/-- a walk by an invariant -/
theorem for_inv {α : Type} {b : Env → Sto → SR} (l : List α) (u : α → D) (P : Nat → Env → Sto → Prop) (hx : w.xs = l.map u) (hs : ∀ i ρ st, P i ρ st → w.stays st = true)
    (hstep : ∀ i a ρ st, l[i]? = some a → P i ρ st → ∃ ρ1 ρ2 st2, asgT ρ tg (u a) = some ρ1 ∧ (b ρ1 st = .ok .nx ρ2 st2 ∨ b ρ1 st = .ok .ct ρ2 st2) ∧ P (i + 1) ρ2 st2) (h0 : P 0 ρ st) :
    ∃ ρ' st', loopF w tg b w.xs ρ st = .ok .nx ρ' st' ∧ P l.length ρ' st' := by
  have key : ∀ (n j : Nat) (ρ : Env) (st : Sto), j + n = l.length → P j ρ st → ∃ ρ' st', loopF w tg b ((l.drop j).map u) ρ st = .ok .nx ρ' st' ∧ P l.length ρ' st' := by
    intro n
    induction n with
    | zero =>
      intro j ρ st h hp
      rw [List.drop_eq_nil_of_le (by omega)]
      refine ⟨ρ, st, ?_, by rwa [show l.length = j by omega]⟩
      rw [List.map_nil]; unfold loopF; rw [if_pos (hs _ _ _ hp)]
    | succ n ih =>
      intro j ρ st h hp
      have hj : j < l.length := by omega
      rw [List.drop_eq_getElem_cons hj, List.map_cons]
      obtain ⟨ρ1, ρ2, st2, h1, h2, h3⟩ := hstep j l[j] ρ st (List.getElem?_eq_getElem hj) hp
      obtain ⟨ρ', st', h4, h5⟩ := ih (j + 1) ρ2 st2 (by omega) h3
      refine ⟨ρ', st', ?_, h5⟩
      unfold loopF
      rw [if_pos (hs _ _ _ hp), h1]
      simp only
      rcases h2 with h2 | h2
      · rw [h2]; exact h4
      · rw [h2]; exact h4
  have := key l.length 0 ρ st (by simp) h0
  rwa [List.drop_zero, ← hx] at this
theorem for_rng {b : Env → Sto → SR} {n : Nat} (P : Nat → Env → Sto → Prop)
    (hstep : ∀ i ρ st, i < n → P i ρ st → ∃ ρ1 ρ2 st2, asgT ρ tg (.int (i : Int)) = some ρ1 ∧ (b ρ1 st = .ok .nx ρ2 st2 ∨ b ρ1 st = .ok .ct ρ2 st2) ∧ P (i + 1) ρ2 st2) (h0 : P 0 ρ st) :
    ∃ ρ' st', loopF (rngW 0 n) tg b (rngW 0 n).xs ρ st = .ok .nx ρ' st' ∧ P n ρ' st' := by
  have := for_inv (w := rngW 0 n) (tg := tg) (b := b) (ρ := ρ) (st := st) (List.range n) (fun (i : Nat) => D.int (0 + (i : Int))) P rfl (fun _ _ _ _ => rfl) (fun i a ρ st ha hp => by
    obtain ⟨h2, h3⟩ := List.getElem?_eq_some_iff.mp ha
    rw [List.getElem_range] at h3
    subst h3
    rw [Int.zero_add]
    exact hstep _ ρ st (by simpa using h2) hp) h0
  rwa [List.length_range] at this
/-- a while by a measure -/
theorem whl_inv {F : Nat} {c : IE} {b : ISs} {res : SR → Prop} (P : Nat → Env → Sto → Prop)
    (hstep : ∀ n ρ st, P n ρ st → (∃ s1, ev C c ρ st = .ok (.bl false) s1 ∧ res (.ok .nx ρ s1)) ∨ (∃ s1 ρ2 s2 m, ev C c ρ st = .ok (.bl true) s1 ∧ evSs C F b ρ s1 = .ok .nx ρ2 s2 ∧ m < n ∧ P m ρ2 s2) ∨
      ∃ s1 r, ev C c ρ st = .ok (.bl true) s1 ∧ evSs C F b ρ s1 = r ∧ (∀ f, r.turn f = r) ∧ res r) : ∀ (f n : Nat) (ρ : Env) (st : Sto), n < f → P n ρ st → res (loopW (evT C c) (evSs C F b) f ρ st) := by
  intro f
  induction f with
  | zero => intro n ρ st h; omega
  | succ f ih =>
    intro n ρ st hn hp
    rcases hstep n ρ st hp with ⟨s1, h1, h2⟩ | ⟨s1, ρ2, s2, m, h1, h2, h3, h4⟩ | ⟨s1, r, h1, h2, h3, h4⟩
    · rw [w_stop h1]; exact h2
    · rw [w_turn h1 h2 rfl]; exact ih m ρ2 s2 (by omega) h4
    · unfold loopW
      rw [evT, h1, R_bind_ok, bOf_bl, R_sbind_ok, if_pos rfl, h2, h3]
      exact h4
end
/-! plain data -/
mutual
theorem pl_cl {n : Nat} : ∀ {d : D}, plD d = true → clD n d = true
  | .non, _ => rfl
  | .int _, _ => rfl
  | .str _, _ => rfl
  | .tup xs, h => by rw [plD] at h; rw [clD]; exact pls_cl h
  | .bl _, h => by cases h
  | .loc _, h => by cases h
  | .fl _, h => by cases h
theorem pls_cl {n : Nat} : ∀ {d : List D}, plDs d = true → clDs n d = true
  | [], _ => rfl
  | x :: xs, h => by rw [plDs, Bool.and_eq_true] at h; rw [clDs, pl_cl h.1, pls_cl h.2]; rfl
end
mutual
theorem pl_locs : ∀ {d : D}, plD d = true → locsD d = []
  | .non, _ => rfl
  | .int _, _ => rfl
  | .str _, _ => rfl
  | .tup xs, h => by rw [plD] at h; rw [locsD]; exact pls_locs h
  | .bl _, h => by cases h
  | .loc _, h => by cases h
  | .fl _, h => by cases h
theorem pls_locs : ∀ {d : List D}, plDs d = true → locsDs d = []
  | [], _ => rfl
  | x :: xs, h => by rw [plDs, Bool.and_eq_true] at h; rw [locsDs, pl_locs h.1, pls_locs h.2]; rfl
end
mutual
theorem pl_pur : ∀ {d : D}, plD d = true → purD d = true
  | .non, _ => rfl
  | .int _, _ => rfl
  | .str _, _ => rfl
  | .tup xs, h => by rw [plD] at h; rw [purD]; exact pls_pur h
  | .bl _, h => by cases h
  | .loc _, h => by cases h
  | .fl _, h => by cases h
theorem pls_pur : ∀ {d : List D}, plDs d = true → purDs d = true
  | [], _ => rfl
  | x :: xs, h => by rw [plDs, Bool.and_eq_true] at h; rw [purDs, pl_pur h.1, pls_pur h.2]; rfl
end
theorem plDs_map {α : Type} {u : α → D} : ∀ {l : List α}, (∀ a ∈ l, plD (u a) = true) → plDs (l.map u) = true
  | [], _ => rfl
  | a :: l, h => by rw [List.map_cons, plDs, h a List.mem_cons_self, plDs_map fun b hb => h b (List.mem_cons_of_mem _ hb)]; rfl
theorem depDs_map {α : Type} {u : α → D} {n : Nat} : ∀ {l : List α}, (∀ a ∈ l, depD (u a) ≤ n) → depDs (l.map u) ≤ n
  | [], _ => Nat.zero_le _
  | a :: l, h => by
    rw [List.map_cons, depDs]
    have := h a List.mem_cons_self
    have := depDs_map fun b hb => h b (List.mem_cons_of_mem _ hb)
    omega
theorem oldOk_nil (st : Sto) : OldOk [] st := fun i hi => absurd hi (by simp)
theorem fin_eq (st0 st : Sto) (d : D) : finish st0 (.ok d st) = if OldOk st0 st then gcD st0.length (reach st0.length st 40 (locsD d) []) d st else .ok d st := rfl
theorem rnDs_free' {g : Nat → Nat} {ds : List D} (h : locsDs ds = []) : rnDs g ds = ds := rnDs_id (p := fun _ => false) (fun _ z => by cases z) (by rw [h]; rfl)
theorem fin_begun {ns : List Int} {s : Int} {hl : ns.length ≤ 63} : finish [] (.ok (.loc 1) [.lst (ns.map D.int), .lst [.loc 0, .int s]]) = .ok (.loc 0) (bx ⟨ns, s, hl⟩ []) := by
  have hl : locsDs (ns.map D.int) = [] := by
    clear hl
    induction ns with
    | nil => rfl
    | cons x xs ih => rw [List.map_cons, locsDs, ih]; rfl
  rw [fin_eq, if_pos (oldOk_nil _)]
  have hr : reach 0 [.lst (ns.map D.int), .lst [.loc 0, .int s]] 40 (locsD (.loc 1)) [] = [1, 0] := by
    have h1 : locsC (.lst [.loc 0, .int s]) = [0] := rfl
    have h0 : locsC (.lst (ns.map D.int)) = [] := hl
    show reach 0 _ 40 [1] [] = _
    rw [reach, if_neg (by simp)]
    show reach 0 _ 39 ([] ++ locsC (.lst [.loc 0, .int s])) ([] ++ [1]) = _
    rw [h1]
    show reach 0 _ 39 [0] [1] = _
    rw [reach, if_neg (by simp)]
    show reach 0 _ 38 ([] ++ locsC (.lst (ns.map D.int))) ([1] ++ [0]) = _
    rw [h0]; rfl
  show gcD 0 (reach 0 _ 40 _ []) _ _ = _
  rw [hr]
  unfold gcD
  rw [if_pos]
  · show R.ok (D.loc (newN 0 [1, 0] 1)) ([] ++ [rnC _ (.lst [.loc 0, .int s]), rnC _ (.lst (ns.map D.int))]) = _
    have e1 : newN 0 [1, 0] 1 = 0 := rfl
    have e0 : newN 0 [1, 0] 0 = 1 := rfl
    show R.ok _ [Cell.lst [.loc (newN 0 [1, 0] 0), .int s], Cell.lst (rnDs _ (ns.map D.int))] = _
    rw [e1, e0, rnDs_free' hl]; rfl
  · refine ⟨by simp, ?_, by simp [locsD, okN]⟩
    intro k hk
    simp only [List.mem_cons, List.not_mem_nil, or_false] at hk
    rcases hk with rfl | rfl
    · exact ⟨Nat.zero_le _, by simp [locsC, locsDs, locsD, okN]⟩
    · refine ⟨Nat.zero_le _, ?_⟩
      show some ((locsDs (ns.map D.int)).all _) = _
      rw [hl]; rfl
section
variable {α : Type}
theorem cut_take (xs : List α) (n : Nat) : cutD xs none (some (n : Int)) = xs.take n := by
  unfold cutD
  rw [HT.sIx_none, HT.sIx_nat, List.drop_zero, Nat.sub_zero]
  by_cases h : n ≤ xs.length
  · rw [Nat.min_eq_left h]
  · rw [Nat.min_eq_right (by omega), List.take_length, List.take_of_length_le (by omega)]
@[simp] theorem cut_take1 (xs : List α) : cutD xs none (some 1) = xs.take 1 := cut_take xs 1
theorem cut_drop (xs : List α) (n : Nat) : cutD xs (some (n : Int)) none = xs.drop n := by
  unfold cutD
  rw [HT.sIx_none, HT.sIx_nat]
  by_cases h : n ≤ xs.length
  · rw [Nat.min_eq_left h, List.take_of_length_le (by rw [List.length_drop]; omega)]
  · rw [Nat.min_eq_right (by omega), Nat.sub_self, List.take_zero, List.drop_eq_nil_of_le (by omega)]
@[simp] theorem cut_drop1 (xs : List α) : cutD xs (some 1) none = xs.drop 1 := cut_drop xs 1
@[simp] theorem cut_init (xs : List α) : cutD xs none (some (-1)) = xs.dropLast := by
  unfold cutD
  rw [HT.sIx_none, List.drop_zero, Nat.sub_zero, List.dropLast_eq_take]
  congr 1
  unfold HT.sIx
  simp only
  rw [if_pos (by decide)]; omega
@[simp] theorem cut_all (xs : List α) : cutD xs none none = xs := by
  unfold cutD
  rw [HT.sIx_none, HT.sIx_none, List.drop_zero, Nat.sub_zero, List.take_length]
end
end Z
/-! trees, patterns, builds, rules as data -/
namespace Z
inductive T where
  | node (c : Nat) (ks : List T)

mutual
def dT : T → D
  | .node c ks => .tup [.str [c], .tup (dTs ks)]
def dTs : List T → List D
  | [] => []
  | t :: ts => dT t :: dTs ts
end
mutual
def sz : T → Nat
  | .node _ ks => 1 + szs ks
def szs : List T → Nat
  | [] => 0
  | t :: ts => sz t + szs ts
end
mutual
def ht : T → Nat
  | .node _ ks => 1 + hts ks
def hts : List T → Nat
  | [] => 0
  | t :: ts => max (ht t) (hts ts)
end
mutual
def okT : T → Prop
  | .node c ks => (97 ≤ c ∧ c ≤ 102) ∧ ks.length ≤ 3 ∧ okTs ks
def okTs : List T → Prop
  | [] => True
  | t :: ts => okT t ∧ okTs ts
end
mutual
def tx : T → Tx
  | .node c ks => if ks.isEmpty = true then [c] else c :: 40 :: (joinT [44] (txs ks) ++ [41])
def txs : List T → List Tx
  | [] => []
  | t :: ts => tx t :: txs ts
end
theorem dTs_map : ∀ ts : List T, dTs ts = ts.map dT
  | [] => by rw [dTs]; rfl
  | t :: ts => by rw [dTs, dTs_map ts]; rfl
theorem txs_map : ∀ ts : List T, txs ts = ts.map tx
  | [] => by rw [txs]; rfl
  | t :: ts => by rw [txs, txs_map ts]; rfl
theorem hts_le {ts : List T} : ∀ {t : T}, t ∈ ts → ht t ≤ hts ts := by
  induction ts with
  | nil => intro t h; cases h
  | cons u us ih =>
    intro t h
    rw [hts]
    rcases List.mem_cons.mp h with rfl | h
    · exact Nat.le_max_left _ _
    · exact Nat.le_trans (ih h) (Nat.le_max_right _ _)
theorem okTs_mem {ts : List T} : ∀ {t : T}, okTs ts → t ∈ ts → okT t := by
  induction ts with
  | nil => intro t _ h; cases h
  | cons u us ih =>
    intro t o h
    rw [okTs] at o
    rcases List.mem_cons.mp h with rfl | h
    · exact o.1
    · exact ih o.2 h
mutual
theorem dT_cl : ∀ (t : T), clD 0 (dT t) = true
  | .node c ks => by
    rw [dT]
    simp only [clD, clDs, Bool.and_true, Bool.true_and]
    exact dTs_cl ks
theorem dTs_cl : ∀ (ts : List T), clDs 0 (dTs ts) = true
  | [] => by rw [dTs]; rfl
  | t :: ts => by rw [dTs, clDs, dT_cl t, dTs_cl ts]; rfl
end
theorem join_len (ts : List Tx) : (joinT [44] ts).length ≤ (ts.map List.length).sum + ts.length := by
  induction ts with
  | nil => simp [joinT]
  | cons x r ih =>
    cases r with
    | nil => simp [joinT]
    | cons y r =>
      rw [joinT]
      simp only [List.length_append, List.length_cons, List.length_nil, List.map_cons, List.sum_cons] at ih ⊢
      omega
mutual
theorem tx_len : ∀ (t : T), (tx t).length + 2 ≤ 4 * sz t
  | .node c ks => by
    rw [tx, sz]
    split
    · simp; omega
    · rename_i h
      have h1 := txs_len ks
      have h2 := join_len (txs ks)
      have h3 : (txs ks).length = ks.length := by rw [txs_map]; simp
      have h4 : 1 ≤ ks.length := by cases ks with
        | nil => simp at h
        | cons => simp
      simp only [List.length_cons, List.length_append, List.length_nil]
      omega
theorem txs_len : ∀ (ts : List T), ((txs ts).map List.length).sum + 2 * ts.length ≤ 4 * szs ts
  | [] => by rw [txs, szs]; simp
  | t :: ts => by
    have h1 := tx_len t
    have h2 := txs_len ts
    rw [txs, szs]
    simp only [List.map_cons, List.sum_cons, List.length_cons]
    omega
end

theorem isE_dTs (ks : List T) : (dTs ks).isEmpty = ks.isEmpty := by cases ks <;> simp [dTs]
theorem szs_mem {ts : List T} : ∀ {t : T}, t ∈ ts → sz t ≤ szs ts := by
  induction ts with
  | nil => intro t h; cases h
  | cons u us ih =>
    intro t h
    rw [szs]
    rcases List.mem_cons.mp h with rfl | h
    · omega
    · have := ih h; omega
theorem ht_pos (t : T) : 1 ≤ ht t := by cases t; rw [ht]; omega

theorem dTs_app (a b : List T) : dTs (a ++ b) = dTs a ++ dTs b := by rw [dTs_map, dTs_map, dTs_map, List.map_append]
theorem take_int {L : List Nat} {r : Int} (h0 : 0 ≤ r) (h1 : r < L.length) : ∃ x, x ∈ L ∧ L2.atI L r = some x := by
  obtain ⟨n, rfl⟩ := Int.eq_ofNat_of_zero_le h0
  have h : n < L.length := by omega
  exact ⟨L[n], List.getElem_mem h, atI_nat (List.getElem?_eq_getElem h)⟩
theorem szs_app (a b : List T) : szs (a ++ b) = szs a + szs b := by
  induction a with
  | nil => simp [szs]
  | cons x a ih => rw [List.cons_append, szs, szs, ih]; omega
theorem hts_app (a b : List T) : hts (a ++ b) = max (hts a) (hts b) := by
  induction a with
  | nil => simp [hts]
  | cons x a ih => rw [List.cons_append, hts, hts, ih]; omega
theorem okTs_app (a b : List T) : okTs (a ++ b) ↔ okTs a ∧ okTs b := by
  induction a with
  | nil => simp [okTs]
  | cons x a ih => rw [List.cons_append, okTs, okTs, ih, and_assoc]

inductive Pt where
  | any | leaf | node (c : Nat) (ks : List Pt)
mutual
def dP : Pt → D
  | .any => (.tup [.str [97, 110, 121]])
  | .leaf => (.tup [.str [108, 101, 97, 102]])
  | .node c ks => .tup [.str [c], .tup (dPs ks)]
def dPs : List Pt → List D
  | [] => []
  | t :: ts => dP t :: dPs ts
end
mutual
def szP : Pt → Nat
  | .any => 1 | .leaf => 1
  | .node _ ks => 1 + szPs ks
def szPs : List Pt → Nat
  | [] => 0
  | t :: ts => szP t + szPs ts
end
mutual
def htP : Pt → Nat
  | .any => 1 | .leaf => 1
  | .node _ ks => 1 + htPs ks
def htPs : List Pt → Nat
  | [] => 0
  | t :: ts => max (htP t) (htPs ts)
end
mutual
def okP : Pt → Prop
  | .any => True | .leaf => True
  | .node c ks => (97 ≤ c ∧ c ≤ 102) ∧ ks.length ≤ 3 ∧ okPs ks
def okPs : List Pt → Prop
  | [] => True
  | t :: ts => okP t ∧ okPs ts
end
theorem dPs_map : ∀ ts : List Pt, dPs ts = ts.map dP
  | [] => by rw [dPs]; rfl
  | t :: ts => by rw [dPs, dPs_map ts]; rfl
theorem htPs_le {ts : List Pt} : ∀ {t : Pt}, t ∈ ts → htP t ≤ htPs ts := by
  induction ts with
  | nil => intro t h; cases h
  | cons u us ih =>
    intro t h
    rw [htPs]
    rcases List.mem_cons.mp h with rfl | h
    · exact Nat.le_max_left _ _
    · exact Nat.le_trans (ih h) (Nat.le_max_right _ _)
theorem okPs_mem {ts : List Pt} : ∀ {t : Pt}, okPs ts → t ∈ ts → okP t := by
  induction ts with
  | nil => intro t _ h; cases h
  | cons u us ih =>
    intro t o h
    rw [okPs] at o
    rcases List.mem_cons.mp h with rfl | h
    · exact o.1
    · exact ih o.2 h
theorem szPs_mem {ts : List Pt} : ∀ {t : Pt}, t ∈ ts → szP t ≤ szPs ts := by
  induction ts with
  | nil => intro t h; cases h
  | cons u us ih =>
    intro t h
    rw [szPs]
    rcases List.mem_cons.mp h with rfl | h
    · omega
    · have := ih h; omega
theorem htP_pos (t : Pt) : 1 ≤ htP t := by cases t <;> rw [htP] <;> omega
mutual
theorem dP_pl : ∀ t : Pt, okP t → plD (dP t) = true
  | .any, _ => by rw [dP]; decide
  | .leaf, _ => by rw [dP]; decide
  | .node c ks, h => by
    rw [okP] at h
    rw [dP]
    simp only [plD, plDs, dPs_pl ks h.2.2, Bool.and_true, List.all_cons, List.all_nil, decide_eq_true_eq, Bool.and_eq_true, List.length_cons, List.length_nil]
    exact ⟨by decide, by omega⟩
theorem dPs_pl : ∀ ts : List Pt, okPs ts → plDs (dPs ts) = true
  | [], _ => by rw [dPs]; rfl
  | t :: ts, h => by
    rw [okPs] at h
    rw [dPs, plDs, dP_pl t h.1, dPs_pl ts h.2]; rfl
end
mutual
theorem dP_dep : ∀ t : Pt, depD (dP t) ≤ 2 * htP t + 1
  | .any => by rw [dP, htP]; decide
  | .leaf => by rw [dP, htP]; decide
  | .node c ks => by rw [dP, htP]; simp only [depD, depDs]; have := dPs_dep ks; omega
theorem dPs_dep : ∀ ts : List Pt, depDs (dPs ts) ≤ 2 * htPs ts + 1
  | [] => by rw [dPs]; simp [depDs]
  | t :: ts => by rw [dPs, depDs, htPs]; have := dP_dep t; have := dPs_dep ts; omega
end

theorem szPs_sum (ts : List Pt) : (ts.map fun t => (szP t : Int)).sum = (szPs ts : Int) := by
  induction ts with
  | nil => rfl
  | cons t ts ih => rw [List.map_cons, List.sum_cons, ih, szPs]; omega

inductive Bd where
  | go (s : Nat) (p : List Nat)
  | node (c : Nat) (ks : List Bd)
def dPa (p : List Nat) : D := .tup (p.map fun (i : Nat) => D.int i)
mutual
def dB : Bd → D
  | .go s p => .tup [.str [100, 111], .int s, dPa p]
  | .node c ks => .tup [.str [c], .tup (dBs ks)]
def dBs : List Bd → List D
  | [] => []
  | t :: ts => dB t :: dBs ts
end
mutual
def szB : Bd → Nat
  | .go _ _ => 1
  | .node _ ks => 1 + szBs ks
def szBs : List Bd → Nat
  | [] => 0
  | t :: ts => szB t + szBs ts
end
mutual
def htB : Bd → Nat
  | .go _ _ => 1
  | .node _ ks => 1 + htBs ks
def htBs : List Bd → Nat
  | [] => 0
  | t :: ts => max (htB t) (htBs ts)
end
/-- the part of a pattern at a path -/
def subP : Pt → List Nat → Option Pt
  | p, [] => some p
  | .node _ ks, i :: r => match ks[i]? with | some q => subP q r | none => none
  | _, _ :: _ => none
mutual
def okB (P : Pt) : Bd → Prop
  | .go s p => s ≤ 5 ∧ 1 ≤ p.length ∧ p.length ≤ 2 ∧ ∃ q, subP P p = some q
  | .node c ks => (97 ≤ c ∧ c ≤ 102) ∧ ks.length ≤ 3 ∧ okBs P ks
def okBs (P : Pt) : List Bd → Prop
  | [] => True
  | t :: ts => okB P t ∧ okBs P ts
end
theorem dBs_map : ∀ ts : List Bd, dBs ts = ts.map dB
  | [] => by rw [dBs]; rfl
  | t :: ts => by rw [dBs, dBs_map ts]; rfl
theorem htBs_le {ts : List Bd} : ∀ {t : Bd}, t ∈ ts → htB t ≤ htBs ts := by
  induction ts with
  | nil => intro t h; cases h
  | cons u us ih =>
    intro t h
    rw [htBs]
    rcases List.mem_cons.mp h with rfl | h
    · exact Nat.le_max_left _ _
    · exact Nat.le_trans (ih h) (Nat.le_max_right _ _)
theorem szBs_mem {ts : List Bd} : ∀ {t : Bd}, t ∈ ts → szB t ≤ szBs ts := by
  induction ts with
  | nil => intro t h; cases h
  | cons u us ih =>
    intro t h
    rw [szBs]
    rcases List.mem_cons.mp h with rfl | h
    · omega
    · have := ih h; omega
theorem okBs_mem {P : Pt} {ts : List Bd} : ∀ {t : Bd}, okBs P ts → t ∈ ts → okB P t := by
  induction ts with
  | nil => intro t _ h; cases h
  | cons u us ih =>
    intro t o h
    rw [okBs] at o
    rcases List.mem_cons.mp h with rfl | h
    · exact o.1
    · exact ih o.2 h
theorem htB_pos (t : Bd) : 1 ≤ htB t := by cases t <;> rw [htB] <;> omega
theorem szBs_sum (ts : List Bd) : (ts.map fun t => (szB t : Int)).sum = (szBs ts : Int) := by
  induction ts with
  | nil => rfl
  | cons t ts ih => rw [List.map_cons, List.sum_cons, ih, szBs]; omega

/-! spots, rules -/
inductive Sp where
  | no | top | under (c : Nat) | kid (i : Nat)
def dSp : Sp → D
  | .no => .non
  | .top => .tup [.str [116, 111, 112]]
  | .under c => .tup [.str [117, 110, 100, 101, 114], .str [c]]
  | .kid i => .tup [.str [107, 105, 100], .int i]
def okSp : Sp → Prop
  | .no => True | .top => True
  | .under c => 97 ≤ c ∧ c ≤ 102
  | .kid i => i ≤ 2
theorem dSp_pl (s : Sp) (h : okSp s) : plD (dSp s) = true := by
  cases s with
  | no => rfl
  | top => decide
  | under c =>
    have h : 97 ≤ c ∧ c ≤ 102 := h
    simp [dSp, plD, plDs, LIM]; omega
  | kid i => simp [dSp, plD, plDs, LIM]
theorem dSp_dep (s : Sp) : depD (dSp s) ≤ 2 := by cases s <;> simp [dSp, depD, depDs]

structure Ru where
  s : Nat
  sp : Sp
  p : Pt
  b : Bd
def dR (r : Ru) : D := .tup [.int r.s, dSp r.sp, dP r.p, dB r.b]
structure okR (r : Ru) : Prop where
  s : r.s ≤ 5
  sp : okSp r.sp
  p : okP r.p
  ph : htP r.p ≤ 3
  pz : szP r.p ≤ 7
  b : okB r.p r.b
  bh : htB r.b ≤ 4
  bz : szB r.b ≤ 12

end Z
/-! trees, patterns, builds, rules: plain data -/
namespace Z
mutual
theorem dT_pl : ∀ t : T, okT t → plD (dT t) = true
  | .node c ks, h => by
    rw [okT] at h
    rw [dT]
    simp only [plD, plDs, dTs_pl ks h.2.2, Bool.and_true, List.all_cons, List.all_nil, decide_eq_true_eq, Bool.and_eq_true, List.length_cons, List.length_nil]
    exact ⟨by decide, by omega⟩
theorem dTs_pl : ∀ ts : List T, okTs ts → plDs (dTs ts) = true
  | [], _ => by rw [dTs]; rfl
  | t :: ts, h => by
    rw [okTs] at h
    rw [dTs, plDs, dT_pl t h.1, dTs_pl ts h.2]; rfl
end
mutual
theorem dT_dep : ∀ t : T, depD (dT t) ≤ 2 * ht t + 1
  | .node c ks => by rw [dT, ht]; simp only [depD, depDs]; have := dTs_dep ks; omega
theorem dTs_dep : ∀ ts : List T, depDs (dTs ts) ≤ 2 * hts ts + 1
  | [] => by rw [dTs]; simp [depDs]
  | t :: ts => by rw [dTs, depDs, hts]; have := dT_dep t; have := dTs_dep ts; omega
end
theorem dPa_pl (p : List Nat) : plD (dPa p) = true := by
  unfold dPa
  rw [plD]
  exact plDs_map fun _ _ => rfl
theorem dPa_dep (p : List Nat) : depD (dPa p) ≤ 2 := by
  unfold dPa
  rw [depD]
  have := depDs_map (u := fun (i : Nat) => D.int i) (n := 1) (l := p) fun _ _ => by simp [depD]
  omega
mutual
theorem dB_pl {P : Pt} : ∀ t : Bd, okB P t → plD (dB t) = true
  | .go s p, h => by rw [dB]; simp [plD, plDs, dPa_pl, LIM]
  | .node c ks, h => by
    rw [okB] at h
    rw [dB]
    simp only [plD, plDs, dBs_pl ks h.2.2, Bool.and_true, List.all_cons, List.all_nil, decide_eq_true_eq, Bool.and_eq_true, List.length_cons, List.length_nil]
    exact ⟨by decide, by omega⟩
theorem dBs_pl {P : Pt} : ∀ ts : List Bd, okBs P ts → plDs (dBs ts) = true
  | [], _ => by rw [dBs]; rfl
  | t :: ts, h => by
    rw [okBs] at h
    rw [dBs, plDs, dB_pl t h.1, dBs_pl ts h.2]; rfl
end
mutual
theorem dB_dep : ∀ t : Bd, depD (dB t) ≤ 2 * htB t + 1
  | .go s p => by rw [dB, htB]; simp only [depD, depDs]; have := dPa_dep p; omega
  | .node c ks => by rw [dB, htB]; simp only [depD, depDs]; have := dBs_dep ks; omega
theorem dBs_dep : ∀ ts : List Bd, depDs (dBs ts) ≤ 2 * htBs ts + 1
  | [] => by rw [dBs]; simp [depDs]
  | t :: ts => by rw [dBs, depDs, htBs]; have := dB_dep t; have := dBs_dep ts; omega
end
theorem dR_pl {r : Ru} (h : okR r) : plD (dR r) = true := by
  unfold dR
  simp [plD, plDs, dSp_pl _ h.sp, dP_pl _ h.p, dB_pl _ h.b]
theorem dR_dep {r : Ru} (h : okR r) : depD (dR r) ≤ 10 := by
  unfold dR
  have h1 := dSp_dep r.sp
  have h2 := dP_dep r.p
  have h3 := dB_dep r.b
  have := h.ph
  have := h.bh
  simp only [depD, depDs]
  omega
/-- rules of a book -/
structure okBk (rs : List Ru) : Prop where
  few : rs.length ≤ 16
  ok : ∀ r ∈ rs, okR r
theorem okBk.pl {rs : List Ru} (h : okBk rs) : plDs (rs.map dR) = true := plDs_map fun r hr => dR_pl (h.ok r hr)
theorem okBk.dep {rs : List Ru} (h : okBk rs) : depDs (rs.map dR) ≤ 10 := depDs_map fun r hr => dR_dep (h.ok r hr)
mutual
theorem sizD_T : ∀ t : T, sizD (dT t) + 1 ≤ 6 * sz t
  | .node c ks => by rw [dT, sz]; simp only [sizD, sizDs]; have := sizDs_T ks; omega
theorem sizDs_T : ∀ ts : List T, sizDs (dTs ts) ≤ 6 * szs ts
  | [] => by rw [dTs]; simp [sizDs]
  | t :: ts => by rw [dTs, sizDs, szs]; have := sizD_T t; have := sizDs_T ts; omega
end
theorem sz_pos (t : T) : 1 ≤ sz t := by cases t; rw [sz]; omega
end Z
/-! what fits; places; the parts of patterns -/
namespace Z
mutual
def fitsP : Pt → T → Bool
  | .any, _ => true
  | .leaf, .node _ ks => ks.isEmpty
  | .node c ps, .node d ks => decide (c = d) && fitsPs ps ks
def fitsPs : List Pt → List T → Bool
  | [], [] => true
  | p :: ps, k :: ks => fitsP p k && fitsPs ps ks
  | _, _ => false
end
theorem fitsPs_len : ∀ {ps : List Pt} {ks : List T}, ps.length ≠ ks.length → fitsPs ps ks = false
  | [], [], h => absurd rfl h
  | [], _ :: _, _ => by rw [fitsPs] <;> simp
  | _ :: _, [], _ => by rw [fitsPs] <;> simp
  | p :: ps, k :: ks, h => by
    rw [fitsPs, fitsPs_len (by simpa using h), Bool.and_false]
theorem fitsPs_range : ∀ {ps : List Pt} {ks : List T}, ps.length = ks.length → ((List.range ks.length).filter fun i => !fitsP (ps.getD i .any) (ks.getD i (.node 0 []))).isEmpty = fitsPs ps ks
  | [], [], _ => rfl
  | [], _ :: _, h => by cases h
  | _ :: _, [], h => by cases h
  | p :: ps, k :: ks, h => by
    rw [fitsPs, ← fitsPs_range (by simpa using h), List.length_cons, List.range_succ_eq_map, List.filter_cons, List.filter_map]
    simp only [List.getD_cons_zero]
    cases hp : fitsP p k
    · simp
    · simp only [Bool.not_true, Bool.false_eq_true, if_false, Bool.true_and, List.isEmpty_map]
      rfl
mutual
/-- all places, in turn -/
def plT : T → List (List Nat × T)
  | .node c ks => ([], .node c ks) :: plTs 0 ks
def plTs (i : Nat) : List T → List (List Nat × T)
  | [] => []
  | t :: ts => (plT t).map (fun p => (i :: p.1, p.2)) ++ plTs (i + 1) ts
end
mutual
theorem plT_len : ∀ t : T, (plT t).length = sz t
  | .node c ks => by rw [plT, sz, List.length_cons, plTs_len 0 ks]; omega
theorem plTs_len : ∀ (i : Nat) (ts : List T), (plTs i ts).length = szs ts
  | i, [] => rfl
  | i, t :: ts => by rw [plTs, szs, List.length_append, List.length_map, plT_len t, plTs_len (i + 1) ts]
end
mutual
theorem plT_mem : ∀ {t : T} {p : List Nat × T}, p ∈ plT t → (okT t → okT p.2) ∧ p.1.length + ht p.2 ≤ ht t
  | .node c ks, p, h => by
    rw [plT] at h
    rcases List.mem_cons.mp h with rfl | h
    · exact ⟨id, by simp⟩
    · have := plTs_mem h
      rw [okT, ht]
      exact ⟨fun o => this.1 o.2.2, by omega⟩
theorem plTs_mem : ∀ {i : Nat} {ts : List T} {p : List Nat × T}, p ∈ plTs i ts → (okTs ts → okT p.2) ∧ p.1.length + ht p.2 ≤ hts ts + 1
  | i, [], p, h => nomatch h
  | i, t :: ts, p, h => by
    rw [plTs] at h
    rw [okTs, hts]
    rcases List.mem_append.mp h with h | h
    · obtain ⟨q, hq, rfl⟩ := List.mem_map.mp h
      have := plT_mem hq
      exact ⟨fun o => this.1 o.1, by simp only [List.length_cons]; omega⟩
    · have := plTs_mem h
      exact ⟨fun o => this.1 o.2, by omega⟩
end
/-- kids stand behind -/
def Ord : List (List Nat × T) → Prop
  | [] => True
  | (p, .node _ ks) :: B => (∀ k, k < ks.length → ∃ t, ks[k]? = some t ∧ (p ++ [k], t) ∈ B) ∧ Ord B
theorem Ord.app : ∀ {A B : List (List Nat × T)}, Ord A → Ord B → Ord (A ++ B)
  | [], B, _, h => h
  | (p, .node _ ks) :: A, B, h, g => ⟨fun k hk => by
      obtain ⟨t, h1, h2⟩ := h.1 k hk
      exact ⟨t, h1, List.mem_append.mpr (.inl h2)⟩, Ord.app h.2 g⟩
theorem Ord.pre (q : List Nat) : ∀ {A : List (List Nat × T)}, Ord A → Ord (A.map fun p => (q ++ p.1, p.2))
  | [], _ => trivial
  | (p, .node _ ks) :: A, h => ⟨fun k hk => by
      obtain ⟨t, h1, h2⟩ := h.1 k hk
      exact ⟨t, h1, List.mem_map.mpr ⟨(p ++ [k], t), h2, by simp⟩⟩, Ord.pre q h.2⟩
theorem plTs_at : ∀ {i k : Nat} {ts : List T} {t : T}, ts[k]? = some t → ([i + k], t) ∈ plTs i ts
  | i, 0, t :: ts, _, h => by
    cases h
    rw [plTs]
    cases t
    rw [plT]
    simp
  | i, k + 1, t :: ts, u, h => by
    rw [plTs]
    have := plTs_at (i := i + 1) (ts := ts) (k := k) (by simpa using h)
    rw [show i + 1 + k = i + (k + 1) by omega] at this
    exact List.mem_append.mpr (.inr this)
mutual
theorem plT_ord : ∀ t : T, Ord (plT t)
  | .node c ks => by
    rw [plT]
    refine ⟨fun k hk => ⟨ks[k], List.getElem?_eq_getElem hk, ?_⟩, plTs_ord 0 ks⟩
    have := plTs_at (i := 0) (List.getElem?_eq_getElem hk)
    simpa using this
theorem plTs_ord : ∀ (i : Nat) (ts : List T), Ord (plTs i ts)
  | i, [] => trivial
  | i, t :: ts => by
    rw [plTs]
    exact Ord.app (Ord.pre [i] (plT_ord t)) (plTs_ord (i + 1) ts)
end
/-- the tree at a place -/
def subT : T → List Nat → Option T
  | t, [] => some t
  | .node _ ks, i :: r => match ks[i]? with | some q => subT q r | none => none
mutual
theorem plT_sub : ∀ {t : T} {p : List Nat × T}, p ∈ plT t → subT t p.1 = some p.2
  | .node c ks, p, h => by
    rw [plT] at h
    rcases List.mem_cons.mp h with rfl | h
    · rw [subT]
    · obtain ⟨k, r, e1, e2, e3⟩ := plTs_sub h
      rw [e1, subT]
      obtain ⟨u, h1, h2⟩ := e3
      rw [Nat.sub_zero] at h1
      rw [h1]; exact h2
theorem plTs_sub : ∀ {i : Nat} {ts : List T} {p : List Nat × T}, p ∈ plTs i ts → ∃ k r, p.1 = k :: r ∧ i ≤ k ∧ ∃ u, ts[k - i]? = some u ∧ subT u r = some p.2
  | i, [], p, h => nomatch h
  | i, t :: ts, p, h => by
    rw [plTs] at h
    rcases List.mem_append.mp h with h | h
    · obtain ⟨q, hq, rfl⟩ := List.mem_map.mp h
      exact ⟨i, q.1, rfl, Nat.le_refl _, t, by simp, plT_sub hq⟩
    · obtain ⟨k, r, e1, e2, u, e3, e4⟩ := plTs_sub h
      refine ⟨k, r, e1, by omega, u, ?_, e4⟩
      rw [show k - i = (k - (i + 1)) + 1 by omega, List.getElem?_cons_succ]
      exact e3
end
/-! parts of patterns -/
mutual
def wiP : Pt → List Pt
  | .any => [.any]
  | .leaf => [.leaf]
  | .node c ks => .node c ks :: wiPs ks
def wiPs : List Pt → List Pt
  | [] => []
  | p :: ps => wiP p ++ wiPs ps
end
mutual
theorem wiP_len : ∀ p : Pt, (wiP p).length = szP p
  | .any => rfl
  | .leaf => rfl
  | .node c ks => by rw [wiP, szP, List.length_cons, wiPs_len ks]; omega
theorem wiPs_len : ∀ ps : List Pt, (wiPs ps).length = szPs ps
  | [] => rfl
  | p :: ps => by rw [wiPs, szPs, List.length_append, wiP_len p, wiPs_len ps]
end
mutual
theorem wiP_ok : ∀ {p q : Pt}, okP p → q ∈ wiP p → okP q ∧ htP q ≤ htP p
  | .any, q, _, h => by rw [wiP] at h; rw [List.mem_singleton.mp h]; exact ⟨trivial, Nat.le_refl _⟩
  | .leaf, q, _, h => by rw [wiP] at h; rw [List.mem_singleton.mp h]; exact ⟨trivial, Nat.le_refl _⟩
  | .node c ks, q, o, h => by
    rw [wiP] at h
    rcases List.mem_cons.mp h with rfl | h
    · exact ⟨o, Nat.le_refl _⟩
    · rw [okP] at o
      have := wiPs_ok o.2.2 h
      rw [htP]; exact ⟨this.1, by omega⟩
theorem wiPs_ok : ∀ {ps : List Pt} {q : Pt}, okPs ps → q ∈ wiPs ps → okP q ∧ htP q ≤ htPs ps
  | [], q, _, h => nomatch h
  | p :: ps, q, o, h => by
    rw [wiPs] at h
    rw [okPs] at o
    rw [htPs]
    rcases List.mem_append.mp h with h | h
    · have := wiP_ok o.1 h; exact ⟨this.1, by omega⟩
    · have := wiPs_ok o.2 h; exact ⟨this.1, by omega⟩
end
theorem wiPs_flat : ∀ ps : List Pt, wiPs ps = ps.flatMap wiP
  | [] => rfl
  | p :: ps => by rw [wiPs, List.flatMap_cons, wiPs_flat ps]
theorem wiP_self (p : Pt) : p ∈ wiP p := by cases p <;> rw [wiP] <;> simp
mutual
theorem wiP_kid : ∀ {p : Pt} {c : Nat} {ks : List Pt} {k : Pt}, .node c ks ∈ wiP p → k ∈ ks → k ∈ wiP p
  | .any, c, ks, k, h, _ => by rw [wiP] at h; simp at h
  | .leaf, c, ks, k, h, _ => by rw [wiP] at h; simp at h
  | .node d js, c, ks, k, h, hk => by
    rw [wiP] at h ⊢
    rcases List.mem_cons.mp h with h | h
    · cases h
      refine List.mem_cons_of_mem _ ?_
      rw [wiPs_flat]
      exact List.mem_flatMap.mpr ⟨k, hk, wiP_self k⟩
    · exact List.mem_cons_of_mem _ (wiPs_kid h hk)
theorem wiPs_kid : ∀ {ps : List Pt} {c : Nat} {ks : List Pt} {k : Pt}, .node c ks ∈ wiPs ps → k ∈ ks → k ∈ wiPs ps
  | [], c, ks, k, h, _ => nomatch h
  | p :: ps, c, ks, k, h, hk => by
    rw [wiPs] at h ⊢
    rcases List.mem_append.mp h with h | h
    · exact List.mem_append.mpr (.inl (wiP_kid h hk))
    · exact List.mem_append.mpr (.inr (wiPs_kid h hk))
end
mutual
theorem dP_inj : ∀ {p q : Pt}, dP p = dP q → p = q
  | .any, q, h => by cases q <;> simp [dP] at h <;> rfl
  | .leaf, q, h => by cases q <;> simp [dP] at h <;> rfl
  | .node c ks, q, h => by
    cases q with
    | any => simp [dP] at h
    | leaf => simp [dP] at h
    | node d js =>
      simp [dP] at h
      rw [h.1, dPs_inj h.2]
theorem dPs_inj : ∀ {p q : List Pt}, dPs p = dPs q → p = q
  | [], [], _ => rfl
  | [], _ :: _, h => by simp [dPs] at h
  | _ :: _, [], h => by simp [dPs] at h
  | p :: ps, q :: qs, h => by
    rw [dPs, dPs] at h
    injection h with h1 h2
    rw [dP_inj h1, dPs_inj h2]
end
theorem szPs_app : ∀ a b : List Pt, szPs (a ++ b) = szPs a + szPs b
  | [], b => by simp [szPs]
  | x :: xs, b => by rw [List.cons_append, szPs, szPs, szPs_app xs b]; omega
instance : DecidableEq Pt := fun a b => if h : dP a = dP b then isTrue (dP_inj h) else isFalse fun e => h (by rw [e])
/-- each once, as they are met -/
def ddP (acc : List Pt) : List Pt → List Pt
  | [] => acc
  | p :: r => if dP p ∈ acc.map dP then ddP acc r else ddP (acc ++ [p]) r
theorem memdP {p : Pt} {l : List Pt} : dP p ∈ l.map dP ↔ p ∈ l := by
  constructor
  · intro h
    obtain ⟨q, hq, e⟩ := List.mem_map.mp h
    rw [← dP_inj e]; exact hq
  · exact fun h => List.mem_map.mpr ⟨p, h, rfl⟩
theorem ddP_mem : ∀ {l acc : List Pt} {p : Pt}, p ∈ ddP acc l ↔ p ∈ acc ∨ p ∈ l
  | [], acc, p => by simp [ddP]
  | q :: l, acc, p => by
    rw [ddP]
    split
    · rename_i h
      rw [memdP] at h
      rw [ddP_mem]
      constructor
      · rintro (h | h)
        · exact .inl h
        · exact .inr (List.mem_cons_of_mem _ h)
      · rintro (h1 | h1)
        · exact .inl h1
        · rcases List.mem_cons.mp h1 with rfl | h1
          · exact .inl h
          · exact .inr h1
    · rw [ddP_mem]
      rw [List.mem_append, List.mem_singleton, List.mem_cons]
      exact or_assoc
theorem ddP_app : ∀ {l m acc : List Pt}, ddP acc (l ++ m) = ddP (ddP acc l) m
  | [], m, acc => rfl
  | q :: l, m, acc => by
    rw [List.cons_append, ddP, ddP]
    split <;> exact ddP_app
theorem ddP_len : ∀ {l acc : List Pt}, (ddP acc l).length ≤ acc.length + l.length
  | [], acc => by simp [ddP]
  | q :: l, acc => by
    rw [ddP]
    split
    · have := ddP_len (l := l) (acc := acc); rw [List.length_cons]; omega
    · have := ddP_len (l := l) (acc := acc ++ [q]); simp only [List.length_cons, List.length_append, List.length_nil] at this ⊢; omega
/-- the parts of a book -/
def partsB (rs : List Ru) : List Pt := ddP [] (rs.flatMap fun r => wiP r.p)
theorem flatMap_le {α β : Type} (f : α → List β) (m : Nat) : ∀ (l : List α), (∀ a ∈ l, (f a).length ≤ m) → (l.flatMap f).length ≤ l.length * m
  | [], _ => by simp
  | a :: l, h => by
    rw [List.flatMap_cons, List.length_append, List.length_cons, Nat.succ_mul]
    have h1 := h a List.mem_cons_self
    have h2 := flatMap_le f m l fun b hb => h b (List.mem_cons_of_mem _ hb)
    omega
theorem partsB_len {rs : List Ru} (h : okBk rs) : (partsB rs).length ≤ 112 := by
  have h1 := ddP_len (l := rs.flatMap fun r => wiP r.p) (acc := [])
  have h2 := flatMap_le (fun r : Ru => wiP r.p) 7 rs fun r hr => by rw [wiP_len]; exact (h.ok r hr).pz
  have := h.few
  unfold partsB
  simp only [List.length_nil] at h1
  omega
theorem partsB_ok {rs : List Ru} (h : okBk rs) {p : Pt} (hp : p ∈ partsB rs) : okP p ∧ htP p ≤ 3 := by
  unfold partsB at hp
  rw [ddP_mem] at hp
  rcases hp with hp | hp
  · cases hp
  · obtain ⟨r, hr, hq⟩ := List.mem_flatMap.mp hp
    have o := h.ok r hr
    have := wiP_ok o.p hq
    exact ⟨this.1, by have := o.ph; omega⟩
theorem partsB_kid {rs : List Ru} {c : Nat} {ks : List Pt} {k : Pt} (hp : .node c ks ∈ partsB rs) (hk : k ∈ ks) : k ∈ partsB rs := by
  unfold partsB at hp ⊢
  rw [ddP_mem] at hp ⊢
  rcases hp with hp | hp
  · cases hp
  · obtain ⟨r, hr, hq⟩ := List.mem_flatMap.mp hp
    exact .inr (List.mem_flatMap.mpr ⟨r, hr, wiP_kid hq hk⟩)
theorem partsB_rule {rs : List Ru} {r : Ru} (hr : r ∈ rs) : r.p ∈ partsB rs := by
  unfold partsB
  rw [ddP_mem]
  exact .inr (List.mem_flatMap.mpr ⟨r, hr, wiP_self r.p⟩)
/-- the numbers of the parts that fit -/
def setT (Ps : List Pt) (t : T) : List Nat := (List.range Ps.length).filter fun i => fitsP (Ps.getD i .any) t
end Z
/-! dicts -/
namespace Z
theorem dGet_nil {k : D} : dGet [] k = none := rfl
theorem dGet_cons {a b k : D} {r : List (D × D)} : dGet ((a, b) :: r) k = if a = k then some b else dGet r k := by
  unfold dGet
  rw [List.find?_cons]
  by_cases h : a = k
  · simp [h]
  · simp [h]
theorem dGet_app {k : D} {a b : List (D × D)} : dGet (a ++ b) k = (dGet a k).or (dGet b k) := by
  induction a with
  | nil => rw [List.nil_append, dGet_nil]; rfl
  | cons x a ih =>
    obtain ⟨u, v⟩ := x
    rw [List.cons_append, dGet_cons, dGet_cons]
    split
    · rfl
    · exact ih
theorem dGet_map {k v k' : D} : ∀ {kvs : List (D × D)}, dGet (kvs.map fun p => if p.1 = k then (p.1, v) else p) k' = if k' = k ∧ (dGet kvs k).isSome = true then some v else dGet kvs k'
  | [] => by rw [List.map_nil, dGet_nil, dGet_nil]; simp
  | (a, b) :: r => by
    rw [List.map_cons]
    have ih := dGet_map (k := k) (v := v) (k' := k') (kvs := r)
    by_cases h : a = k
    · subst h
      rw [if_pos rfl, dGet_cons, dGet_cons, dGet_cons, if_pos rfl]
      by_cases h2 : a = k'
      · subst h2; simp
      · have h3 : ¬ k' = a := fun z => h2 z.symm
        rw [if_neg h2, if_neg h2, ih]
        simp [h3]
    · rw [if_neg h, dGet_cons, dGet_cons, dGet_cons, if_neg h, ih]
      by_cases h2 : a = k'
      · subst h2; simp [h]
      · simp [h2]
theorem dGet_put {kvs : List (D × D)} {k v k' : D} : dGet (dPut kvs k v) k' = if k' = k then some v else dGet kvs k' := by
  unfold dPut
  by_cases h : (dGet kvs k).isSome = true
  · rw [if_pos h, dGet_map]
    by_cases h2 : k' = k <;> simp [h2, h]
  · rw [if_neg h, dGet_app]
    by_cases h2 : k' = k
    · subst h2
      have : dGet kvs k' = none := by simpa using h
      rw [this, dGet_cons]; simp
    · rw [dGet_cons, if_neg (fun z => h2 z.symm), if_neg h2, dGet_nil]; simp
theorem dPut_len {kvs : List (D × D)} {k v : D} : (dPut kvs k v).length ≤ kvs.length + 1 := by
  unfold dPut
  split <;> simp
theorem dPut_keys {kvs : List (D × D)} {k v x : D} (h : x ∈ (dPut kvs k v).map (·.2)) : x = v ∨ x ∈ kvs.map (·.2) := by
  unfold dPut at h
  split at h
  · rw [List.map_map] at h
    obtain ⟨p, hp, rfl⟩ := List.mem_map.mp h
    by_cases hk : p.1 = k
    · left; simp [hk]
    · right; simp [hk]; exact ⟨p.1, hp⟩
  · rw [List.map_append] at h
    rcases List.mem_append.mp h with h | h
    · exact .inr h
    · exact .inl (by simpa using h)
theorem dPa_inj {p q : List Nat} (h : dPa p = dPa q) : p = q := by
  unfold dPa at h
  injection h with h
  induction p generalizing q with
  | nil => cases q with
    | nil => rfl
    | cons => simp at h
  | cons a p ih => cases q with
    | nil => simp at h
    | cons b q =>
      rw [List.map_cons, List.map_cons] at h
      injection h with h1 h2
      injection h1 with h1
      rw [ih h2, Int.ofNat.inj h1]
theorem nkPa (p : List Nat) : nkDs (p.map fun (i : Nat) => D.int i) = some (p.map fun (i : Nat) => PySem.NestedKey.num i) := by
  induction p with
  | nil => rfl
  | cons a p ih => rw [List.map_cons, nkDs, ih]; rfl
theorem depPa (p : List Nat) : PySem.NestedKey.depthAll (p.map fun (i : Nat) => PySem.NestedKey.num i) ≤ 1 := by
  induction p with
  | nil => simp [PySem.NestedKey.depthAll]
  | cons a p ih => rw [List.map_cons, PySem.NestedKey.depthAll]; simp [PySem.NestedKey.depth]; omega
@[simp] theorem key_Pa (p : List Nat) : keyT (.tup (p.map fun (i : Nat) => D.int i)) = true := by
  unfold keyT
  simp only [nkD, nkPa]
  rw [PySem.NestedKey.depth]
  have := depPa p
  exact decide_eq_true (by omega)
end Z
/-! lists of plain data compared -/
namespace Z
theorem toP_lst {st : Sto} {n : Nat} {xs : List D} (h : st[n]? = some (.lst xs)) (hp : plDs xs = true) : toP st 2 (.loc n) = some (.list (pyDs xs)) := by
  unfold toP
  rw [toPW, h]
  simp only
  rw [toPWs_pl hp]
theorem eqL {st : Sto} {n m : Nat} {xs ys : List D} (h : st[n]? = some (.lst xs)) (h' : st[m]? = some (.lst ys)) (hp : plDs xs = true) (hq : plDs ys = true) (hd : depDs xs ≤ 59) : eqD st (.loc n) (.loc m) = some (decide (xs = ys)) := by
  cases ys with
  | nil =>
    unfold eqD
    simp only [h, h']
    cases xs <;> simp
  | cons y ys =>
    have e : eqD st (.loc n) (.loc m) = eqG st (.loc n) (.loc m) := by
      unfold eqD
      simp only [h, h']
    rw [e]
    unfold eqG
    rw [toP_lst h hp, toP_lst h' hq]
    simp only
    have d1 : (PySem.PyData.list (pyDs xs)).depth ≤ 60 := by
      have := deps_pl xs
      rw [PySem.PyData.depth]; omega
    rw [if_pos ⟨lays_pl hp, lays_pl hq, by have h2 := Nat.min_le_left (PySem.PyData.list (pyDs xs)).depth (PySem.PyData.list (pyDs (y :: ys))).depth; omega⟩]
    rw [PySem.PyData.eqv, eqvs_pl hp hq]
end Z
/-! ### the text as IR (printed by gen.py) -/
namespace Law
open Z
def n_text : PySem.Str := PySem.Str.mk #[116, 101, 120, 116]
def n_at : PySem.Str := PySem.Str.mk #[97, 116]
def n_kind : PySem.Str := PySem.Str.mk #[107, 105, 110, 100]
def n_whole : PySem.Str := PySem.Str.mk #[119, 104, 111, 108, 101]
def n_part : PySem.Str := PySem.Str.mk #[112, 97, 114, 116]
def n_here : PySem.Str := PySem.Str.mk #[104, 101, 114, 101]
def n_take : PySem.Str := PySem.Str.mk #[116, 97, 107, 101]
def n_do : PySem.Str := PySem.Str.mk #[100, 111]
@[simp] theorem ne_n_text_n_at : (n_text = n_at) = False := by unfold n_text n_at; simp
@[simp] theorem ne_n_text_n_kind : (n_text = n_kind) = False := by unfold n_text n_kind; simp
@[simp] theorem ne_n_text_n_whole : (n_text = n_whole) = False := by unfold n_text n_whole; simp
@[simp] theorem ne_n_text_n_part : (n_text = n_part) = False := by unfold n_text n_part; simp
@[simp] theorem ne_n_text_n_here : (n_text = n_here) = False := by unfold n_text n_here; simp
@[simp] theorem ne_n_text_n_take : (n_text = n_take) = False := by unfold n_text n_take; simp
@[simp] theorem ne_n_text_n_do : (n_text = n_do) = False := by unfold n_text n_do; simp
@[simp] theorem ne_n_at_n_text : (n_at = n_text) = False := by unfold n_at n_text; simp
@[simp] theorem ne_n_at_n_kind : (n_at = n_kind) = False := by unfold n_at n_kind; simp
@[simp] theorem ne_n_at_n_whole : (n_at = n_whole) = False := by unfold n_at n_whole; simp
@[simp] theorem ne_n_at_n_part : (n_at = n_part) = False := by unfold n_at n_part; simp
@[simp] theorem ne_n_at_n_here : (n_at = n_here) = False := by unfold n_at n_here; simp
@[simp] theorem ne_n_at_n_take : (n_at = n_take) = False := by unfold n_at n_take; simp
@[simp] theorem ne_n_at_n_do : (n_at = n_do) = False := by unfold n_at n_do; simp
@[simp] theorem ne_n_kind_n_text : (n_kind = n_text) = False := by unfold n_kind n_text; simp
@[simp] theorem ne_n_kind_n_at : (n_kind = n_at) = False := by unfold n_kind n_at; simp
@[simp] theorem ne_n_kind_n_whole : (n_kind = n_whole) = False := by unfold n_kind n_whole; simp
@[simp] theorem ne_n_kind_n_part : (n_kind = n_part) = False := by unfold n_kind n_part; simp
@[simp] theorem ne_n_kind_n_here : (n_kind = n_here) = False := by unfold n_kind n_here; simp
@[simp] theorem ne_n_kind_n_take : (n_kind = n_take) = False := by unfold n_kind n_take; simp
@[simp] theorem ne_n_kind_n_do : (n_kind = n_do) = False := by unfold n_kind n_do; simp
@[simp] theorem ne_n_whole_n_text : (n_whole = n_text) = False := by unfold n_whole n_text; simp
@[simp] theorem ne_n_whole_n_at : (n_whole = n_at) = False := by unfold n_whole n_at; simp
@[simp] theorem ne_n_whole_n_kind : (n_whole = n_kind) = False := by unfold n_whole n_kind; simp
@[simp] theorem ne_n_whole_n_part : (n_whole = n_part) = False := by unfold n_whole n_part; simp
@[simp] theorem ne_n_whole_n_here : (n_whole = n_here) = False := by unfold n_whole n_here; simp
@[simp] theorem ne_n_whole_n_take : (n_whole = n_take) = False := by unfold n_whole n_take; simp
@[simp] theorem ne_n_whole_n_do : (n_whole = n_do) = False := by unfold n_whole n_do; simp
@[simp] theorem ne_n_part_n_text : (n_part = n_text) = False := by unfold n_part n_text; simp
@[simp] theorem ne_n_part_n_at : (n_part = n_at) = False := by unfold n_part n_at; simp
@[simp] theorem ne_n_part_n_kind : (n_part = n_kind) = False := by unfold n_part n_kind; simp
@[simp] theorem ne_n_part_n_whole : (n_part = n_whole) = False := by unfold n_part n_whole; simp
@[simp] theorem ne_n_part_n_here : (n_part = n_here) = False := by unfold n_part n_here; simp
@[simp] theorem ne_n_part_n_take : (n_part = n_take) = False := by unfold n_part n_take; simp
@[simp] theorem ne_n_part_n_do : (n_part = n_do) = False := by unfold n_part n_do; simp
@[simp] theorem ne_n_here_n_text : (n_here = n_text) = False := by unfold n_here n_text; simp
@[simp] theorem ne_n_here_n_at : (n_here = n_at) = False := by unfold n_here n_at; simp
@[simp] theorem ne_n_here_n_kind : (n_here = n_kind) = False := by unfold n_here n_kind; simp
@[simp] theorem ne_n_here_n_whole : (n_here = n_whole) = False := by unfold n_here n_whole; simp
@[simp] theorem ne_n_here_n_part : (n_here = n_part) = False := by unfold n_here n_part; simp
@[simp] theorem ne_n_here_n_take : (n_here = n_take) = False := by unfold n_here n_take; simp
@[simp] theorem ne_n_here_n_do : (n_here = n_do) = False := by unfold n_here n_do; simp
@[simp] theorem ne_n_take_n_text : (n_take = n_text) = False := by unfold n_take n_text; simp
@[simp] theorem ne_n_take_n_at : (n_take = n_at) = False := by unfold n_take n_at; simp
@[simp] theorem ne_n_take_n_kind : (n_take = n_kind) = False := by unfold n_take n_kind; simp
@[simp] theorem ne_n_take_n_whole : (n_take = n_whole) = False := by unfold n_take n_whole; simp
@[simp] theorem ne_n_take_n_part : (n_take = n_part) = False := by unfold n_take n_part; simp
@[simp] theorem ne_n_take_n_here : (n_take = n_here) = False := by unfold n_take n_here; simp
@[simp] theorem ne_n_take_n_do : (n_take = n_do) = False := by unfold n_take n_do; simp
@[simp] theorem ne_n_do_n_text : (n_do = n_text) = False := by unfold n_do n_text; simp
@[simp] theorem ne_n_do_n_at : (n_do = n_at) = False := by unfold n_do n_at; simp
@[simp] theorem ne_n_do_n_kind : (n_do = n_kind) = False := by unfold n_do n_kind; simp
@[simp] theorem ne_n_do_n_whole : (n_do = n_whole) = False := by unfold n_do n_whole; simp
@[simp] theorem ne_n_do_n_part : (n_do = n_part) = False := by unfold n_do n_part; simp
@[simp] theorem ne_n_do_n_here : (n_do = n_here) = False := by unfold n_do n_here; simp
@[simp] theorem ne_n_do_n_take : (n_do = n_take) = False := by unfold n_do n_take; simp
abbrev g_ANY : D := (.tup [(.str [97, 110, 121])])
abbrev g_DO : D := (.str [100, 111])
abbrev g_FIGURES : D := (.str [48, 49, 50, 51, 52, 53, 54, 55, 56, 57])
abbrev g_LABELS : D := (.str [97, 98, 99, 100, 101, 102])
abbrev g_LEAF : D := (.tup [(.str [108, 101, 97, 102])])
abbrev g_MOST_BUILD : D := (.int 12)
abbrev g_MOST_BUILD_DEEP : D := (.int 4)
abbrev g_MOST_KIDS : D := (.int 3)
abbrev g_MOST_PARTS : D := (.int 7)
abbrev g_MOST_PATTERN_DEEP : D := (.int 3)
abbrev g_MOST_RULES : D := (.int 16)
abbrev g_MOST_STATE : D := (.int 5)
abbrev f_law : Nat := 0
abbrev f_law_begun : Nat := 1
abbrev f_law_book : Nat := 2
abbrev f_law_text : Nat := 3
abbrev f_law_alike : Nat := 4
abbrev f_written_rules : Nat := 5
abbrev f_read_rules : Nat := 6
abbrev f_law_take : Nat := 7
abbrev f_law_rule : Nat := 8
abbrev f_need_book : Nat := 9
abbrev f_part_text : Nat := 10
abbrev f_spot_text : Nat := 11
abbrev f_rule_of : Nat := 12
abbrev f_law_pattern : Nat := 13
abbrev f_law_parts : Nat := 14
abbrev f_law_paths : Nat := 15
abbrev f_law_build : Nat := 16
abbrev f_is_rule : Nat := 17
abbrev f_spot_of : Nat := 18
abbrev f_Signs_init : Nat := 19
abbrev f_Signs_whole : Nat := 20
abbrev f_is_spot : Nat := 21
abbrev f_is_number : Nat := 22
abbrev f_pattern_parts : Nat := 23
abbrev f_build_parts : Nat := 24
abbrev f_Signs_part : Nat := 25
abbrev f_is_label : Nat := 26
abbrev f_has_path : Nat := 27
abbrev f_Signs_here : Nat := 28
abbrev f_Signs_take : Nat := 29
abbrev f_Signs_do : Nat := 30
abbrev c_Signs : Nat := 0
abbrev m_whole : Nat := 0
abbrev m_part : Nat := 1
abbrev m_here : Nat := 2
abbrev m_take : Nat := 3
abbrev m_do : Nat := 4
/-- law(_law_script) : 0 _law_script, 1 _law_box, 2 _law_turn, 3 _law_book_here, 4 _law_rows, 5 _law_text_here, 6 _law_handed, 7 _law_state, 8 _law_spot, 9 _law_pattern_here, 10 _law_build_here, 11 _law_word, 12 _law_part -/
def c_lawe : IE := (.bi .str (.var 12))
def c_law : IE := .comp c_lawe (.name 12) [12] (.it (.var 8)) .none
def l_law2b : ISs := (.cons (.asg (.name 11) (.cst (.str [45]))) (.cons (.ite (.cmp .notN (.var 8) (.cst .non)) (.cons (.asg (.name 11) (.me1 .join (.cst (.str [58])) c_law)) .nil) .nil) (.cons (.expr (.me1 .append (.var 4) (.me1 .join (.cst (.str [32])) (.lst (.cons (.bi .str (.var 7)) (.cons (.var 11) (.cons (.call f_law_text (.cons (.var 9) .nil)) (.cons (.call f_law_text (.cons (.var 10) .nil)) .nil)))))))) .nil)))
def l_law2 : IS := .for_ (.tup [7, 8, 9, 10]) (.it (.var 3)) l_law2b
def l_lawb : ISs := (.cons (.asg (.name 3) (.call f_law_book (.cons (.var 1) (.cons (.cst (.str [97, 98, 99, 100, 101, 102])) .nil)))) (.cons (.asg (.name 4) (.lst .nil)) (.cons l_law2 (.cons (.asg (.name 5) (.me1 .join (.cst (.str [10])) (.var 4))) (.cons (.asg (.name 6) (.bi .list (.var 3))) (.cons (.ite (.or (.not (.call f_law_alike (.cons (.call f_written_rules (.cons (.var 6) .nil)) (.cons (.var 5) .nil)))) (.cmp .ne (.var 6) (.var 3))) (.cons (.ret (.cst (.bl false))) .nil) .nil) (.cons (.ite (.not (.call f_law_alike (.cons (.call f_read_rules (.cons (.var 5) .nil)) (.cons (.var 3) .nil)))) (.cons (.ret (.cst (.bl false))) .nil) .nil) (.cons (.ite (.cmp .ne (.call f_written_rules (.cons (.call f_read_rules (.cons (.var 5) .nil)) .nil)) (.var 5)) (.cons (.ret (.cst (.bl false))) .nil) .nil) (.cons (.expr (.me0 .clear (.var 6))) .nil)))))))))
def l_law : IS := .for_ (.name 2) (.rng1 (.cst (.int 4))) l_lawb
def b_law : ISs := (.cons (.asg (.name 1) (.call f_law_begun (.cons (.var 0) .nil))) (.cons l_law (.cons (.ret (.and (.cmp .eq (.call f_read_rules (.cons (.cst (.str [])) .nil)) (.lst .nil)) (.cmp .eq (.call f_written_rules (.cons (.lst .nil) .nil)) (.cst (.str []))))) .nil)))
/-- _law_begun(_law_script) : 0 _law_script, 1 _law_stirred, 2 _law_cell -/
def l_law_begunb : ISs := (.cons (.asg (.name 1) (.bin .mod (.bin .add (.bin .add (.bin .mul (.var 1) (.cst (.int 48271))) (.bin .mul (.var 2) (.cst (.int 69621)))) (.cst (.int 11))) (.cst (.int 2147483647)))) .nil)
def l_law_begun : IS := .for_ (.name 2) (.it (.var 0)) l_law_begunb
def b_law_begun : ISs := (.cons (.asg (.name 1) (.cst (.int 0))) (.cons l_law_begun (.cons (.ret (.lst (.cons (.bi .list (.var 0)) (.cons (.bin .mul (.var 1) (.bi .int (.cmp .gt (.bi .len (.var 0)) (.cst (.int 2))))) .nil)))) .nil)))
/-- _law_book(_law_box, _law_letters_here) : 0 _law_box, 1 _law_letters_here, 2 _law_left, 3 _law_states, 4 _law_found, 5 _law_state, 6 _law_k -/
def c_law_booke : IE := (.me1 .pop (.var 2) (.call f_law_take (.cons (.var 0) (.cons (.bi .len (.var 2)) .nil))))
def c_law_book : IE := .comp c_law_booke (.name 6) [6] (.rng1 (.ix (.lst (.cons (.cst (.int 0)) (.cons (.cst (.int 1)) (.cons (.cst (.int 2)) (.cons (.cst (.int 5)) .nil))))) (.call f_law_take (.cons (.var 0) (.cons (.cst (.int 4)) .nil))))) .none
def c_law_book2e : IE := (.call f_law_rule (.cons (.var 0) (.cons (.var 1) (.cons (.var 3) .nil))))
def c_law_book2 : IE := .comp c_law_book2e (.name 6) [6] (.rng1 (.call f_law_take (.cons (.var 0) (.cons (.ix (.lst (.cons (.cst (.int 5)) (.cons (.cst (.int 11)) .nil))) (.call f_law_take (.cons (.var 0) (.cons (.cst (.int 2)) .nil)))) .nil)))) .none
def l_law_bookb : ISs := (.cons (.ite (.cmp .gt (.call f_law_take (.cons (.var 0) (.cons (.cst (.int 4)) .nil))) (.cst (.int 0))) (.cons (.expr (.me1 .append (.var 4) (.tup (.cons (.var 5) (.cons (.cst .non) (.cons (.tup (.cons (.cst (.str [97, 110, 121])) .nil)) (.cons (.tup (.cons (.ix (.var 1) (.call f_law_take (.cons (.var 0) (.cons (.bi .len (.var 1)) .nil)))) (.cons (.tup .nil) .nil))) .nil))))))) .nil) .nil) .nil)
def l_law_book : IS := .for_ (.name 5) (.it (.var 3)) l_law_bookb
def b_law_book : ISs := (.cons (.asg (.name 2) (.lrng2 (.cst (.int 1)) (.cst (.int 6)))) (.cons (.asg (.name 3) (.bin .add (.lst (.cons (.cst (.int 0)) .nil)) c_law_book)) (.cons (.asg (.name 4) c_law_book2) (.cons l_law_book (.cons (.ret (.var 4)) .nil)))))
/-- _law_text(_law_part) : 0 _law_part, 1 _law_k, 2 _law_kid -/
def c_law_texte : IE := (.bi .str (.var 1))
def c_law_text : IE := .comp c_law_texte (.name 1) [1] (.it (.ix (.var 0) (.cst (.int 2)))) .none
def c_law_text2e : IE := (.call f_law_text (.cons (.var 2) .nil))
def c_law_text2 : IE := .comp c_law_text2e (.name 2) [2] (.it (.ix (.var 0) (.cst (.int 1)))) .none
def b_law_text : ISs := (.cons (.ite (.cmp .eq (.bi .len (.var 0)) (.cst (.int 1))) (.cons (.ret (.ite (.cmp .eq (.ix (.var 0) (.cst (.int 0))) (.cst (.str [97, 110, 121]))) (.cst (.str [63])) (.cst (.str [46])))) .nil) .nil) (.cons (.ite (.cmp .eq (.ix (.var 0) (.cst (.int 0))) (.cst (.str [100, 111]))) (.cons (.ret (.bin .add (.bin .add (.bi .str (.ix (.var 0) (.cst (.int 1)))) (.cst (.str [58]))) (.me1 .join (.cst (.str [46])) c_law_text))) .nil) .nil) (.cons (.ite (.cmp .eq (.ix (.var 0) (.cst (.int 1))) (.tup .nil)) (.cons (.ret (.ix (.var 0) (.cst (.int 0)))) .nil) .nil) (.cons (.ret (.bin .add (.bin .add (.bin .add (.ix (.var 0) (.cst (.int 0))) (.cst (.str [40]))) (.me1 .join (.cst (.str [44])) c_law_text2)) (.cst (.str [41])))) .nil))))
/-- _law_alike(_law_found, _law_due) : 0 _law_found, 1 _law_due, 2 _law_k -/
def l_law_alikeb : ISs := (.cons (.ite (.not (.call f_law_alike (.cons (.ix (.var 0) (.var 2)) (.cons (.ix (.var 1) (.var 2)) .nil)))) (.cons (.ret (.cst (.bl false))) .nil) .nil) .nil)
def l_law_alike : IS := .for_ (.name 2) (.rng1 (.bi .len (.var 1))) l_law_alikeb
def b_law_alike : ISs := (.cons (.ite (.cmp .isN (.var 1) (.cst .non)) (.cons (.ret (.cmp .isN (.var 0) (.cst .non))) .nil) .nil) (.cons (.ite (.isi (.var 1) .bool) (.cons (.ret (.and (.isi (.var 0) .bool) (.cmp .eq (.var 0) (.var 1)))) .nil) .nil) (.cons (.ite (.isi (.var 1) .int) (.cons (.ret (.and (.isi (.var 0) .int) (.and (.not (.isi (.var 0) .bool)) (.cmp .eq (.var 0) (.var 1))))) .nil) .nil) (.cons (.ite (.isi (.var 1) .str) (.cons (.ret (.and (.isi (.var 0) .str) (.cmp .eq (.var 0) (.var 1)))) .nil) .nil) (.cons (.ite (.or (.cmp .ne (.isi (.var 1) .tup) (.isi (.var 0) .tup)) (.cmp .ne (.isi (.var 1) .lst) (.isi (.var 0) .lst))) (.cons (.ret (.cst (.bl false))) .nil) .nil) (.cons (.ite (.cmp .ne (.bi .len (.var 0)) (.bi .len (.var 1))) (.cons (.ret (.cst (.bl false))) .nil) .nil) (.cons l_law_alike (.cons (.ret (.cst (.bl true))) .nil))))))))
/-- written_rules(book) : 0 book, 1 rows, 2 state, 3 spot, 4 pattern, 5 build -/
def l_written_rulesb : ISs := (.cons (.expr (.me1 .append (.var 1) (.me1 .join (.cst (.str [32])) (.lst (.cons (.bi .str (.var 2)) (.cons (.call f_spot_text (.cons (.var 3) .nil)) (.cons (.call f_part_text (.cons (.var 4) .nil)) (.cons (.call f_part_text (.cons (.var 5) .nil)) .nil)))))))) .nil)
def l_written_rules : IS := .for_ (.tup [2, 3, 4, 5]) (.it (.var 0)) l_written_rulesb
def b_written_rules : ISs := (.cons (.expr (.call f_need_book (.cons (.var 0) .nil))) (.cons (.asg (.name 1) (.lst .nil)) (.cons l_written_rules (.cons (.ret (.me1 .join (.cst (.str [10])) (.var 1))) .nil))))
/-- read_rules(text) : 0 text, 1 rows, 2 found, 3 number -/
def c_read_rulese : IE := (.call f_rule_of (.cons (.ix (.var 1) (.var 3)) (.cons (.var 3) .nil)))
def c_read_rules : IE := .comp c_read_rulese (.name 3) [3] (.rng1 (.bi .len (.var 1))) .none
def b_read_rules : ISs := (.cons (.asg (.name 1) (.ite (.cmp .ne (.var 0) (.cst (.str []))) (.me1 .split (.var 0) (.cst (.str [10]))) (.lst .nil))) (.cons (.asg (.name 2) c_read_rules) (.cons (.expr (.call f_need_book (.cons (.var 2) .nil))) (.cons (.ret (.var 2)) .nil))))
/-- _law_take(_law_box, _law_many) : 0 _law_box, 1 _law_many, 2 _law_number -/
def b_law_take : ISs := (.cons (.ite (.cmp .eq (.ix (.var 0) (.cst (.int 0))) (.lst .nil)) (.cons (.seti (.var 0) (.cst (.int 1)) (.bin .mod (.bin .mul (.ix (.var 0) (.cst (.int 1))) (.cst (.int 48271))) (.cst (.int 2147483647)))) (.cons (.ret (.bin .mod (.bin .fdiv (.ix (.var 0) (.cst (.int 1))) (.cst (.int 7))) (.var 1))) .nil)) .nil) (.cons (.asg (.name 2) (.ix (.ix (.var 0) (.cst (.int 0))) (.cst (.int 0)))) (.cons (.seti (.ix (.var 0) (.cst (.int 0))) (.cst (.int 0)) (.bin .fdiv (.var 2) (.var 1))) (.cons (.ite (.or (.cmp .eq (.ix (.ix (.var 0) (.cst (.int 0))) (.cst (.int 0))) (.cst (.int 0))) (.cmp .eq (.ix (.ix (.var 0) (.cst (.int 0))) (.cst (.int 0))) (.cst (.int (-1))))) (.cons (.expr (.me1 .pop (.ix (.var 0) (.cst (.int 0))) (.cst (.int 0)))) .nil) .nil) (.cons (.ret (.bin .mod (.var 2) (.var 1))) .nil)))))
/-- _law_rule(_law_box, _law_letters_here, _law_states) : 0 _law_box, 1 _law_letters_here, 2 _law_states, 3 _law_pattern_here, 4 _law_paths_here, 5 _law_build_here, 6 _law_spots -/
def b_law_rule : ISs := (.cons (.asg (.name 3) (.call f_law_pattern (.cons (.var 0) (.cons (.var 1) (.cons (.bin .add (.cst (.int 1)) (.call f_law_take (.cons (.var 0) (.cons (.cst (.int 3)) .nil)))) .nil))))) (.cons (.ite (.cmp .gt (.call f_law_parts (.cons (.var 3) .nil)) (.cst (.int 7))) (.cons (.asg (.name 3) (.tup (.cons (.ix (.var 3) (.cst (.int 0))) (.cons (.bin .mul (.tup (.cons (.tup (.cons (.cst (.str [97, 110, 121])) .nil)) .nil)) (.bi .len (.ix (.var 3) (.cst (.int 1))))) .nil)))) .nil) .nil) (.cons (.asg (.name 4) (.call f_law_paths (.cons (.var 3) .nil))) (.cons (.asg (.name 5) (.call f_law_build (.cons (.var 0) (.cons (.var 1) (.cons (.var 2) (.cons (.var 4) (.cons (.bin .add (.cst (.int 1)) (.call f_law_take (.cons (.var 0) (.cons (.cst (.int 4)) .nil)))) .nil))))))) (.cons (.ite (.cmp .gt (.call f_law_parts (.cons (.var 5) .nil)) (.cst (.int 12))) (.cons (.asg (.name 5) (.ite (.cmp .lt (.call f_law_parts (.cons (.ix (.ix (.var 5) (.cst (.int 1))) (.cst (.int 0))) .nil)) (.cst (.int 12))) (.tup (.cons (.ix (.var 5) (.cst (.int 0))) (.cons (.sl (.ix (.var 5) (.cst (.int 1))) .none (.some (.cst (.int 1)))) .nil))) (.tup (.cons (.ix (.var 5) (.cst (.int 0))) (.cons (.tup .nil) .nil))))) .nil) .nil) (.cons (.asg (.name 6) (.lst (.cons (.cst .non) (.cons (.cst .non) (.cons (.cst .non) (.cons (.tup (.cons (.cst (.str [116, 111, 112])) .nil)) (.cons (.tup (.cons (.cst (.str [117, 110, 100, 101, 114])) (.cons (.ix (.var 1) (.call f_law_take (.cons (.var 0) (.cons (.bi .len (.var 1)) .nil)))) .nil))) (.cons (.tup (.cons (.cst (.str [107, 105, 100])) (.cons (.call f_law_take (.cons (.var 0) (.cons (.cst (.int 3)) .nil))) .nil))) .nil)))))))) (.cons (.ret (.tup (.cons (.ix (.var 2) (.call f_law_take (.cons (.var 0) (.cons (.bi .len (.var 2)) .nil)))) (.cons (.ix (.var 6) (.call f_law_take (.cons (.var 0) (.cons (.cst (.int 6)) .nil)))) (.cons (.var 3) (.cons (.var 5) .nil)))))) .nil)))))))
/-- need_book(book) : 0 book, 1 number, 2 rule -/
def l_need_bookb : ISs := (.cons (.ite (.or (.cmp .ge (.var 1) (.gl g_MOST_RULES)) (.not (.call f_is_rule (.cons (.var 2) .nil)))) (.cons .never .nil) .nil) .nil)
def l_need_book : IS := .for_ (.tup [1, 2]) (.enum (.var 0)) l_need_bookb
def b_need_book : ISs := (.cons l_need_book .nil)
/-- part_text(part) : 0 part, 1 kids, 2 kid, 3 k -/
def c_part_texte : IE := (.bi .str (.var 3))
def c_part_text : IE := .comp c_part_texte (.name 3) [3] (.it (.ix (.var 0) (.cst (.int 2)))) .none
def c_part_text2e : IE := (.call f_part_text (.cons (.var 2) .nil))
def c_part_text2 : IE := .comp c_part_text2e (.name 2) [2] (.it (.ix (.var 0) (.cst (.int 1)))) .none
def b_part_text : ISs := (.cons (.ite (.cmp .mem (.var 0) (.tup (.cons (.gl g_ANY) (.cons (.gl g_LEAF) .nil)))) (.cons (.ret (.ite (.cmp .eq (.var 0) (.gl g_ANY)) (.cst (.str [63])) (.cst (.str [46])))) .nil) .nil) (.cons (.ite (.cmp .eq (.ix (.var 0) (.cst (.int 0))) (.gl g_DO)) (.cons (.ret (.bin .add (.bin .add (.bi .str (.ix (.var 0) (.cst (.int 1)))) (.cst (.str [58]))) (.me1 .join (.cst (.str [46])) c_part_text))) .nil) .nil) (.cons (.asg (.name 1) (.me1 .join (.cst (.str [44])) c_part_text2)) (.cons (.ret (.bin .add (.ix (.var 0) (.cst (.int 0))) (.ite (.cmp .ne (.var 1) (.cst (.str []))) (.bin .add (.bin .add (.cst (.str [40])) (.var 1)) (.cst (.str [41]))) (.cst (.str []))))) .nil))))
/-- spot_text(spot) : 0 spot, 1 part -/
def c_spot_texte : IE := (.bi .str (.var 1))
def c_spot_text : IE := .comp c_spot_texte (.name 1) [1] (.it (.var 0)) .none
def b_spot_text : ISs := (.cons (.ret (.ite (.cmp .isN (.var 0) (.cst .non)) (.cst (.str [45])) (.me1 .join (.cst (.str [58])) c_spot_text))) .nil)
/-- rule_of(row, number) : 0 row, 1 number, 2 words, 3 spot -/
def b_rule_of : ISs := (.cons (.asg (.name 2) (.me1 .split (.var 0) (.cst (.str [32])))) (.cons (.ite (.or (.cmp .ne (.bi .len (.var 2)) (.cst (.int 4))) (.or (.cmp .ne (.bi .len (.ix (.var 2) (.cst (.int 0)))) (.cst (.int 1))) (.cmp .nmem (.ix (.var 2) (.cst (.int 0))) (.gl g_FIGURES)))) (.cons .never .nil) .nil) (.cons (.asg (.name 3) (.call f_spot_of (.cons (.ix (.var 2) (.cst (.int 1))) (.cons (.var 1) .nil)))) (.cons (.tryN (.cons (.ret (.tup (.cons (.bi .int (.ix (.var 2) (.cst (.int 0)))) (.cons (.var 3) (.cons (.om n_whole m_whole (.mk c_Signs (.cons (.ix (.var 2) (.cst (.int 2))) (.cons (.cst (.str [112, 97, 116, 116, 101, 114, 110])) .nil))) .nil) (.cons (.om n_whole m_whole (.mk c_Signs (.cons (.ix (.var 2) (.cst (.int 3))) (.cons (.cst (.str [98, 117, 105, 108, 100])) .nil))) .nil) .nil)))))) .nil)) .nil))))
/-- _law_pattern(_law_box, _law_letters_here, _law_deep) : 0 _law_box, 1 _law_letters_here, 2 _law_deep, 3 _law_way, 4 _law_many, 5 _law_k -/
def c_law_patterne : IE := (.call f_law_pattern (.cons (.var 0) (.cons (.var 1) (.cons (.bin .sub (.var 2) (.cst (.int 1))) .nil))))
def c_law_pattern : IE := .comp c_law_patterne (.name 5) [5] (.rng1 (.var 4)) .none
def b_law_pattern : ISs := (.cons (.asg (.name 3) (.call f_law_take (.cons (.var 0) (.cons (.cst (.int 6)) .nil)))) (.cons (.ite (.or (.cmp .lt (.var 2) (.cst (.int 2))) (.cmp .lt (.var 3) (.cst (.int 2)))) (.cons (.ret (.ix (.lst (.cons (.tup (.cons (.cst (.str [97, 110, 121])) .nil)) (.cons (.tup (.cons (.cst (.str [97, 110, 121])) .nil)) (.cons (.tup (.cons (.cst (.str [108, 101, 97, 102])) .nil)) (.cons (.tup (.cons (.ix (.var 1) (.call f_law_take (.cons (.var 0) (.cons (.bi .len (.var 1)) .nil)))) (.cons (.tup .nil) .nil))) .nil))))) (.call f_law_take (.cons (.var 0) (.cons (.cst (.int 4)) .nil))))) .nil) .nil) (.cons (.asg (.name 4) (.call f_law_take (.cons (.var 0) (.cons (.cst (.int 4)) .nil)))) (.cons (.ret (.tup (.cons (.ix (.var 1) (.call f_law_take (.cons (.var 0) (.cons (.bi .len (.var 1)) .nil)))) (.cons (.bi .tuple c_law_pattern) .nil)))) .nil))))
/-- _law_parts(_law_part) : 0 _law_part, 1 _law_kid -/
def c_law_partse : IE := (.call f_law_parts (.cons (.var 1) .nil))
def c_law_parts : IE := .comp c_law_partse (.name 1) [1] (.it (.ix (.var 0) (.cst (.int 1)))) .none
def b_law_parts : ISs := (.cons (.ite (.or (.cmp .ne (.bi .len (.var 0)) (.cst (.int 2))) (.cmp .eq (.ix (.var 0) (.cst (.int 0))) (.cst (.str [100, 111])))) (.cons (.ret (.cst (.int 1))) .nil) .nil) (.cons (.ret (.bin .add (.cst (.int 1)) (.bi .sum c_law_parts))) .nil))
/-- _law_paths(_law_pattern_here) : 0 _law_pattern_here, 1 _law_found, 2 _law_k, 3 _law_j -/
def c_law_pathse : IE := (.tup (.cons (.var 2) (.cons (.var 3) .nil)))
def c_law_paths : IE := .comp c_law_pathse (.name 3) [3] (.rng1 (.bi .len (.ix (.ix (.ix (.var 0) (.cst (.int 1))) (.var 2)) (.cst (.int 1))))) .none
def l_law_pathsb : ISs := (.cons (.expr (.me1 .append (.var 1) (.tup (.cons (.var 2) .nil)))) (.cons (.ite (.cmp .eq (.bi .len (.ix (.ix (.var 0) (.cst (.int 1))) (.var 2))) (.cst (.int 2))) (.cons (.expr (.me1 .extend (.var 1) c_law_paths)) .nil) .nil) .nil))
def l_law_paths : IS := .for_ (.name 2) (.rng1 (.bi .len (.ix (.var 0) (.cst (.int 1))))) l_law_pathsb
def b_law_paths : ISs := (.cons (.asg (.name 1) (.lst .nil)) (.cons (.ite (.cmp .eq (.bi .len (.var 0)) (.cst (.int 2))) (.cons l_law_paths .nil) .nil) (.cons (.ret (.var 1)) .nil)))
/-- _law_build(_law_box, _law_letters_here, _law_states, _law_paths_here, _law_deep) : 0 _law_box, 1 _law_letters_here, 2 _law_states, 3 _law_paths_here, 4 _law_deep, 5 _law_many, 6 _law_kids, 7 _law_k -/
def c_law_builde : IE := (.call f_law_build (.cons (.var 0) (.cons (.var 1) (.cons (.var 2) (.cons (.var 3) (.cons (.bin .sub (.var 4) (.cst (.int 1))) .nil))))))
def c_law_build : IE := .comp c_law_builde (.name 7) [7] (.rng1 (.var 5)) .none
def b_law_build : ISs := (.cons (.ite (.and (.cmp .ne (.var 3) (.lst .nil)) (.cmp .gt (.call f_law_take (.cons (.var 0) (.cons (.cst (.int 3)) .nil))) (.cst (.int 0)))) (.cons (.ret (.tup (.cons (.cst (.str [100, 111])) (.cons (.ix (.var 2) (.call f_law_take (.cons (.var 0) (.cons (.bi .len (.var 2)) .nil)))) (.cons (.ix (.var 3) (.call f_law_take (.cons (.var 0) (.cons (.bi .len (.var 3)) .nil)))) .nil))))) .nil) .nil) (.cons (.asg (.name 5) (.bin .mul (.call f_law_take (.cons (.var 0) (.cons (.cst (.int 4)) .nil))) (.bi .int (.cmp .gt (.var 4) (.cst (.int 1)))))) (.cons (.asg (.name 6) c_law_build) (.cons (.ret (.tup (.cons (.ix (.var 1) (.call f_law_take (.cons (.var 0) (.cons (.bi .len (.var 1)) .nil)))) (.cons (.bi .tuple (.var 6)) .nil)))) .nil))))
/-- is_rule(rule) : 0 rule -/
def b_is_rule : ISs := (.cons (.ite (.or (.not (.isi (.var 0) .tup)) (.or (.cmp .ne (.bi .len (.var 0)) (.cst (.int 4))) (.or (.not (.call f_is_number (.cons (.ix (.var 0) (.cst (.int 0))) (.cons (.cst (.int 0)) (.cons (.gl g_MOST_STATE) .nil))))) (.not (.call f_is_spot (.cons (.ix (.var 0) (.cst (.int 1))) .nil)))))) (.cons (.ret (.cst (.bl false))) .nil) .nil) (.cons (.ite (.cmp .gt (.call f_pattern_parts (.cons (.ix (.var 0) (.cst (.int 2))) (.cons (.gl g_MOST_PATTERN_DEEP) .nil))) (.gl g_MOST_PARTS)) (.cons (.ret (.cst (.bl false))) .nil) .nil) (.cons (.ret (.cmp .le (.call f_build_parts (.cons (.ix (.var 0) (.cst (.int 3))) (.cons (.ix (.var 0) (.cst (.int 2))) (.cons (.gl g_MOST_BUILD_DEEP) .nil)))) (.gl g_MOST_BUILD))) .nil)))
/-- spot_of(word, number) : 0 word, 1 number, 2 parts -/
def b_spot_of : ISs := (.cons (.ite (.cmp .mem (.var 0) (.tup (.cons (.cst (.str [45])) (.cons (.cst (.str [116, 111, 112])) .nil)))) (.cons (.ret (.ite (.cmp .eq (.var 0) (.cst (.str [45]))) (.cst .non) (.tup (.cons (.cst (.str [116, 111, 112])) .nil)))) .nil) .nil) (.cons (.asg (.name 2) (.me1 .split (.var 0) (.cst (.str [58])))) (.cons (.ite (.and (.cmp .eq (.bi .len (.var 2)) (.cst (.int 2))) (.and (.cmp .eq (.ix (.var 2) (.cst (.int 0))) (.cst (.str [117, 110, 100, 101, 114]))) (.and (.cmp .eq (.bi .len (.ix (.var 2) (.cst (.int 1)))) (.cst (.int 1))) (.cmp .mem (.ix (.var 2) (.cst (.int 1))) (.gl g_LABELS))))) (.cons (.ret (.tup (.cons (.cst (.str [117, 110, 100, 101, 114])) (.cons (.ix (.var 2) (.cst (.int 1))) .nil)))) .nil) .nil) (.cons (.ite (.and (.cmp .eq (.bi .len (.var 2)) (.cst (.int 2))) (.and (.cmp .eq (.ix (.var 2) (.cst (.int 0))) (.cst (.str [107, 105, 100]))) (.and (.cmp .eq (.bi .len (.ix (.var 2) (.cst (.int 1)))) (.cst (.int 1))) (.cmp .mem (.ix (.var 2) (.cst (.int 1))) (.gl g_FIGURES))))) (.cons (.ret (.tup (.cons (.cst (.str [107, 105, 100])) (.cons (.bi .int (.ix (.var 2) (.cst (.int 1)))) .nil)))) .nil) .nil) (.cons .never .nil)))))
/-- Signs.__init__(self, text, kind) : 0 self, 1 text, 2 kind -/
def b_Signs_init : ISs := (.cons (.setf (.var 0) n_text (.var 1)) (.cons (.setf (.var 0) n_at (.cst (.int 0))) (.cons (.setf (.var 0) n_kind (.var 2)) .nil)))
/-- Signs.whole(self) : 0 self, 1 found -/
def b_Signs_whole : ISs := (.cons (.asg (.name 1) (.om n_part m_part (.var 0) .nil)) (.cons (.ite (.cmp .lt (.fld (.var 0) n_at) (.bi .len (.fld (.var 0) n_text))) (.cons .never .nil) .nil) (.cons (.ret (.var 1)) .nil)))
/-- is_spot(spot) : 0 spot -/
def b_is_spot : ISs := (.cons (.ite (.or (.cmp .isN (.var 0) (.cst .non)) (.cmp .eq (.var 0) (.tup (.cons (.cst (.str [116, 111, 112])) .nil)))) (.cons (.ret (.cst (.bl true))) .nil) .nil) (.cons (.ite (.or (.not (.isi (.var 0) .tup)) (.cmp .ne (.bi .len (.var 0)) (.cst (.int 2)))) (.cons (.ret (.cst (.bl false))) .nil) .nil) (.cons (.ret (.or (.and (.cmp .eq (.ix (.var 0) (.cst (.int 0))) (.cst (.str [117, 110, 100, 101, 114]))) (.call f_is_label (.cons (.ix (.var 0) (.cst (.int 1))) .nil))) (.and (.cmp .eq (.ix (.var 0) (.cst (.int 0))) (.cst (.str [107, 105, 100]))) (.call f_is_number (.cons (.ix (.var 0) (.cst (.int 1))) (.cons (.cst (.int 0)) (.cons (.bin .sub (.gl g_MOST_KIDS) (.cst (.int 1))) .nil))))))) .nil)))
/-- is_number(part, low, high) : 0 part, 1 low, 2 high -/
def b_is_number : ISs := (.cons (.ret (.and (.isi (.var 0) .int) (.and (.not (.isi (.var 0) .bool)) (.cch .le .le (.var 1) (.var 0) (.var 2))))) .nil)
/-- pattern_parts(pattern, deep) : 0 pattern, 1 deep, 2 kid -/
def c_pattern_partse : IE := (.call f_pattern_parts (.cons (.var 2) (.cons (.bin .sub (.var 1) (.cst (.int 1))) .nil)))
def c_pattern_parts : IE := .comp c_pattern_partse (.name 2) [2] (.it (.ix (.var 0) (.cst (.int 1)))) .none
def b_pattern_parts : ISs := (.cons (.ite (.cmp .lt (.var 1) (.cst (.int 1))) (.cons (.ret (.bin .add (.gl g_MOST_PARTS) (.cst (.int 1)))) .nil) .nil) (.cons (.ite (.cmp .mem (.var 0) (.tup (.cons (.gl g_ANY) (.cons (.gl g_LEAF) .nil)))) (.cons (.ret (.cst (.int 1))) .nil) .nil) (.cons (.ite (.or (.not (.isi (.var 0) .tup)) (.or (.cmp .ne (.bi .len (.var 0)) (.cst (.int 2))) (.not (.call f_is_label (.cons (.ix (.var 0) (.cst (.int 0))) .nil))))) (.cons (.ret (.bin .add (.gl g_MOST_PARTS) (.cst (.int 1)))) .nil) .nil) (.cons (.ite (.or (.not (.isi (.ix (.var 0) (.cst (.int 1))) .tup)) (.cmp .gt (.bi .len (.ix (.var 0) (.cst (.int 1)))) (.gl g_MOST_KIDS))) (.cons (.ret (.bin .add (.gl g_MOST_PARTS) (.cst (.int 1)))) .nil) .nil) (.cons (.ret (.bin .add (.cst (.int 1)) (.bi .sum c_pattern_parts))) .nil)))))
/-- build_parts(build, pattern, deep) : 0 build, 1 pattern, 2 deep, 3 good, 4 kid -/
def c_build_partse : IE := (.call f_build_parts (.cons (.var 4) (.cons (.var 1) (.cons (.bin .sub (.var 2) (.cst (.int 1))) .nil))))
def c_build_parts : IE := .comp c_build_partse (.name 4) [4] (.it (.ix (.var 0) (.cst (.int 1)))) .none
def b_build_parts : ISs := (.cons (.ite (.or (.cmp .lt (.var 2) (.cst (.int 1))) (.or (.not (.isi (.var 0) .tup)) (.cmp .eq (.bi .len (.var 0)) (.cst (.int 0))))) (.cons (.ret (.bin .add (.gl g_MOST_BUILD) (.cst (.int 1)))) .nil) .nil) (.cons (.ite (.cmp .eq (.ix (.var 0) (.cst (.int 0))) (.gl g_DO)) (.cons (.asg (.name 3) (.and (.cmp .eq (.bi .len (.var 0)) (.cst (.int 3))) (.and (.call f_is_number (.cons (.ix (.var 0) (.cst (.int 1))) (.cons (.cst (.int 0)) (.cons (.gl g_MOST_STATE) .nil)))) (.call f_has_path (.cons (.var 1) (.cons (.ix (.var 0) (.cst (.int 2))) .nil)))))) (.cons (.ret (.ite (.var 3) (.cst (.int 1)) (.bin .add (.gl g_MOST_BUILD) (.cst (.int 1))))) .nil)) .nil) (.cons (.ite (.or (.cmp .ne (.bi .len (.var 0)) (.cst (.int 2))) (.or (.not (.call f_is_label (.cons (.ix (.var 0) (.cst (.int 0))) .nil))) (.or (.not (.isi (.ix (.var 0) (.cst (.int 1))) .tup)) (.cmp .gt (.bi .len (.ix (.var 0) (.cst (.int 1)))) (.gl g_MOST_KIDS))))) (.cons (.ret (.bin .add (.gl g_MOST_BUILD) (.cst (.int 1)))) .nil) .nil) (.cons (.ret (.bin .add (.cst (.int 1)) (.bi .sum c_build_parts))) .nil))))
/-- Signs.part(self) : 0 self, 1 label, 2 kids -/
def l_Signs_partb : ISs := (.cons (.expr (.me1 .append (.var 2) (.om n_part m_part (.var 0) .nil))) .nil)
def l_Signs_part : IS := .whl (.cmp .eq (.om n_take m_take (.var 0) (.cons (.cst (.str [44, 41])) .nil)) (.cst (.str [44]))) l_Signs_partb
def b_Signs_part : ISs := (.cons (.ite (.and (.cmp .eq (.fld (.var 0) n_kind) (.cst (.str [112, 97, 116, 116, 101, 114, 110]))) (.cmp .mem (.om n_here m_here (.var 0) .nil) (.tup (.cons (.cst (.str [63])) (.cons (.cst (.str [46])) .nil))))) (.cons (.ret (.ite (.cmp .eq (.om n_take m_take (.var 0) (.cons (.cst (.str [63, 46])) .nil)) (.cst (.str [63]))) (.gl g_ANY) (.gl g_LEAF))) .nil) .nil) (.cons (.ite (.and (.cmp .eq (.fld (.var 0) n_kind) (.cst (.str [98, 117, 105, 108, 100]))) (.and (.cmp .ne (.om n_here m_here (.var 0) .nil) (.cst (.str []))) (.cmp .mem (.om n_here m_here (.var 0) .nil) (.gl g_FIGURES)))) (.cons (.ret (.om n_do m_do (.var 0) .nil)) .nil) .nil) (.cons (.asg (.name 1) (.om n_take m_take (.var 0) (.cons (.gl g_LABELS) .nil))) (.cons (.asg (.name 2) (.lst .nil)) (.cons (.ite (.cmp .eq (.om n_here m_here (.var 0) .nil) (.cst (.str [40]))) (.cons (.setf (.var 0) n_at (.bin .add (.fld (.var 0) n_at) (.cst (.int 1)))) (.cons (.expr (.me1 .append (.var 2) (.om n_part m_part (.var 0) .nil))) (.cons l_Signs_part .nil))) .nil) (.cons (.ret (.tup (.cons (.var 1) (.cons (.bi .tuple (.var 2)) .nil)))) .nil))))))
/-- is_label(part) : 0 part -/
def b_is_label : ISs := (.cons (.ret (.and (.isi (.var 0) .str) (.and (.cmp .eq (.bi .len (.var 0)) (.cst (.int 1))) (.cmp .mem (.var 0) (.gl g_LABELS))))) .nil)
/-- has_path(pattern, path) : 0 pattern, 1 path, 2 k -/
def l_has_pathb : ISs := (.cons (.ite (.or (.cmp .mem (.var 0) (.tup (.cons (.gl g_ANY) (.cons (.gl g_LEAF) .nil)))) (.not (.call f_is_number (.cons (.var 2) (.cons (.cst (.int 0)) (.cons (.bin .sub (.bi .len (.ix (.var 0) (.cst (.int 1)))) (.cst (.int 1))) .nil)))))) (.cons (.ret (.cst (.bl false))) .nil) .nil) (.cons (.asg (.name 0) (.ix (.ix (.var 0) (.cst (.int 1))) (.var 2))) .nil))
def l_has_path : IS := .for_ (.name 2) (.it (.var 1)) l_has_pathb
def b_has_path : ISs := (.cons (.ite (.or (.not (.isi (.var 1) .tup)) (.not (.cch .le .le (.cst (.int 1)) (.bi .len (.var 1)) (.cst (.int 2))))) (.cons (.ret (.cst (.bl false))) .nil) .nil) (.cons l_has_path (.cons (.ret (.cst (.bl true))) .nil)))
/-- Signs.here(self) : 0 self -/
def b_Signs_here : ISs := (.cons (.ret (.sl (.fld (.var 0) n_text) (.some (.fld (.var 0) n_at)) (.some (.bin .add (.fld (.var 0) n_at) (.cst (.int 1)))))) .nil)
/-- Signs.take(self, signs) : 0 self, 1 signs, 2 sign -/
def b_Signs_take : ISs := (.cons (.asg (.name 2) (.om n_here m_here (.var 0) .nil)) (.cons (.ite (.or (.cmp .eq (.var 2) (.cst (.str []))) (.cmp .nmem (.var 2) (.var 1))) (.cons .never .nil) .nil) (.cons (.setf (.var 0) n_at (.bin .add (.fld (.var 0) n_at) (.cst (.int 1)))) (.cons (.ret (.var 2)) .nil))))
/-- Signs.do(self) : 0 self, 1 state, 2 path -/
def b_Signs_do : ISs := (.cons (.asg (.name 1) (.bi .int (.om n_take m_take (.var 0) (.cons (.gl g_FIGURES) .nil)))) (.cons (.expr (.om n_take m_take (.var 0) (.cons (.cst (.str [58])) .nil))) (.cons (.asg (.name 2) (.lst (.cons (.bi .int (.om n_take m_take (.var 0) (.cons (.gl g_FIGURES) .nil))) .nil))) (.cons (.ite (.cmp .eq (.om n_here m_here (.var 0) .nil) (.cst (.str [46]))) (.cons (.setf (.var 0) n_at (.bin .add (.fld (.var 0) n_at) (.cst (.int 1)))) (.cons (.expr (.me1 .append (.var 2) (.bi .int (.om n_take m_take (.var 0) (.cons (.gl g_FIGURES) .nil))))) .nil)) .nil) (.cons (.ret (.tup (.cons (.gl g_DO) (.cons (.var 1) (.cons (.bi .tuple (.var 2)) .nil))))) .nil)))))
def fns : List FnIR := [⟨1, 13, b_law⟩,
  ⟨1, 3, b_law_begun⟩,
  ⟨2, 7, b_law_book⟩,
  ⟨1, 3, b_law_text⟩,
  ⟨2, 3, b_law_alike⟩,
  ⟨1, 6, b_written_rules⟩,
  ⟨1, 4, b_read_rules⟩,
  ⟨2, 3, b_law_take⟩,
  ⟨3, 7, b_law_rule⟩,
  ⟨1, 3, b_need_book⟩,
  ⟨1, 4, b_part_text⟩,
  ⟨1, 2, b_spot_text⟩,
  ⟨2, 4, b_rule_of⟩,
  ⟨3, 6, b_law_pattern⟩,
  ⟨1, 2, b_law_parts⟩,
  ⟨1, 4, b_law_paths⟩,
  ⟨5, 8, b_law_build⟩,
  ⟨1, 1, b_is_rule⟩,
  ⟨2, 3, b_spot_of⟩,
  ⟨3, 3, b_Signs_init⟩,
  ⟨1, 2, b_Signs_whole⟩,
  ⟨1, 1, b_is_spot⟩,
  ⟨3, 3, b_is_number⟩,
  ⟨2, 3, b_pattern_parts⟩,
  ⟨3, 5, b_build_parts⟩,
  ⟨1, 3, b_Signs_part⟩,
  ⟨1, 1, b_is_label⟩,
  ⟨2, 3, b_has_path⟩,
  ⟨1, 1, b_Signs_here⟩,
  ⟨2, 3, b_Signs_take⟩,
  ⟨1, 3, b_Signs_do⟩]
def ini : Nat → Option Nat := fun c => match c with | 0 => some f_Signs_init | _ => none
def meth : Nat → Nat → Option Nat := fun c m => match c, m with | 0, 0 => some f_Signs_whole | 0, 1 => some f_Signs_part | 0, 2 => some f_Signs_here | 0, 3 => some f_Signs_take | 0, 4 => some f_Signs_do | _, _ => none
def pr : Prog := ⟨fns, ini, meth⟩
theorem u_law_begun (F k : Nat) (a0 : D) (st : Sto) : pr.call F (k + 1) f_law_begun [a0] st = finish st (runB (evSs (pr.cl F k) F b_law_begun [some a0, none, none] st)) := call_eq pr F k (fi := ⟨1, 3, b_law_begun⟩) rfl rfl
theorem u_law_book (F k : Nat) (a0 a1 : D) (st : Sto) : pr.call F (k + 1) f_law_book [a0, a1] st = finish st (runB (evSs (pr.cl F k) F b_law_book [some a0, some a1, none, none, none, none, none] st)) := call_eq pr F k (fi := ⟨2, 7, b_law_book⟩) rfl rfl
theorem u_law_text (F k : Nat) (a0 : D) (st : Sto) : pr.call F (k + 1) f_law_text [a0] st = finish st (runB (evSs (pr.cl F k) F b_law_text [some a0, none, none] st)) := call_eq pr F k (fi := ⟨1, 3, b_law_text⟩) rfl rfl
theorem u_law_alike (F k : Nat) (a0 a1 : D) (st : Sto) : pr.call F (k + 1) f_law_alike [a0, a1] st = finish st (runB (evSs (pr.cl F k) F b_law_alike [some a0, some a1, none] st)) := call_eq pr F k (fi := ⟨2, 3, b_law_alike⟩) rfl rfl
theorem u_written_rules (F k : Nat) (a0 : D) (st : Sto) : pr.call F (k + 1) f_written_rules [a0] st = finish st (runB (evSs (pr.cl F k) F b_written_rules [some a0, none, none, none, none, none] st)) := call_eq pr F k (fi := ⟨1, 6, b_written_rules⟩) rfl rfl
theorem u_read_rules (F k : Nat) (a0 : D) (st : Sto) : pr.call F (k + 1) f_read_rules [a0] st = finish st (runB (evSs (pr.cl F k) F b_read_rules [some a0, none, none, none] st)) := call_eq pr F k (fi := ⟨1, 4, b_read_rules⟩) rfl rfl
theorem u_law_take (F k : Nat) (a0 a1 : D) (st : Sto) : pr.call F (k + 1) f_law_take [a0, a1] st = finish st (runB (evSs (pr.cl F k) F b_law_take [some a0, some a1, none] st)) := call_eq pr F k (fi := ⟨2, 3, b_law_take⟩) rfl rfl
theorem u_law_rule (F k : Nat) (a0 a1 a2 : D) (st : Sto) : pr.call F (k + 1) f_law_rule [a0, a1, a2] st = finish st (runB (evSs (pr.cl F k) F b_law_rule [some a0, some a1, some a2, none, none, none, none] st)) := call_eq pr F k (fi := ⟨3, 7, b_law_rule⟩) rfl rfl
theorem u_need_book (F k : Nat) (a0 : D) (st : Sto) : pr.call F (k + 1) f_need_book [a0] st = finish st (runB (evSs (pr.cl F k) F b_need_book [some a0, none, none] st)) := call_eq pr F k (fi := ⟨1, 3, b_need_book⟩) rfl rfl
theorem u_part_text (F k : Nat) (a0 : D) (st : Sto) : pr.call F (k + 1) f_part_text [a0] st = finish st (runB (evSs (pr.cl F k) F b_part_text [some a0, none, none, none] st)) := call_eq pr F k (fi := ⟨1, 4, b_part_text⟩) rfl rfl
theorem u_spot_text (F k : Nat) (a0 : D) (st : Sto) : pr.call F (k + 1) f_spot_text [a0] st = finish st (runB (evSs (pr.cl F k) F b_spot_text [some a0, none] st)) := call_eq pr F k (fi := ⟨1, 2, b_spot_text⟩) rfl rfl
theorem u_rule_of (F k : Nat) (a0 a1 : D) (st : Sto) : pr.call F (k + 1) f_rule_of [a0, a1] st = finish st (runB (evSs (pr.cl F k) F b_rule_of [some a0, some a1, none, none] st)) := call_eq pr F k (fi := ⟨2, 4, b_rule_of⟩) rfl rfl
theorem u_law_pattern (F k : Nat) (a0 a1 a2 : D) (st : Sto) : pr.call F (k + 1) f_law_pattern [a0, a1, a2] st = finish st (runB (evSs (pr.cl F k) F b_law_pattern [some a0, some a1, some a2, none, none, none] st)) := call_eq pr F k (fi := ⟨3, 6, b_law_pattern⟩) rfl rfl
theorem u_law_parts (F k : Nat) (a0 : D) (st : Sto) : pr.call F (k + 1) f_law_parts [a0] st = finish st (runB (evSs (pr.cl F k) F b_law_parts [some a0, none] st)) := call_eq pr F k (fi := ⟨1, 2, b_law_parts⟩) rfl rfl
theorem u_law_paths (F k : Nat) (a0 : D) (st : Sto) : pr.call F (k + 1) f_law_paths [a0] st = finish st (runB (evSs (pr.cl F k) F b_law_paths [some a0, none, none, none] st)) := call_eq pr F k (fi := ⟨1, 4, b_law_paths⟩) rfl rfl
theorem u_law_build (F k : Nat) (a0 a1 a2 a3 a4 : D) (st : Sto) : pr.call F (k + 1) f_law_build [a0, a1, a2, a3, a4] st = finish st (runB (evSs (pr.cl F k) F b_law_build [some a0, some a1, some a2, some a3, some a4, none, none, none] st)) := call_eq pr F k (fi := ⟨5, 8, b_law_build⟩) rfl rfl
theorem u_is_rule (F k : Nat) (a0 : D) (st : Sto) : pr.call F (k + 1) f_is_rule [a0] st = finish st (runB (evSs (pr.cl F k) F b_is_rule [some a0] st)) := call_eq pr F k (fi := ⟨1, 1, b_is_rule⟩) rfl rfl
theorem u_spot_of (F k : Nat) (a0 a1 : D) (st : Sto) : pr.call F (k + 1) f_spot_of [a0, a1] st = finish st (runB (evSs (pr.cl F k) F b_spot_of [some a0, some a1, none] st)) := call_eq pr F k (fi := ⟨2, 3, b_spot_of⟩) rfl rfl
theorem u_Signs_init (F k : Nat) (a0 a1 a2 : D) (st : Sto) : pr.call F (k + 1) f_Signs_init [a0, a1, a2] st = finish st (runB (evSs (pr.cl F k) F b_Signs_init [some a0, some a1, some a2] st)) := call_eq pr F k (fi := ⟨3, 3, b_Signs_init⟩) rfl rfl
theorem u_Signs_whole (F k : Nat) (a0 : D) (st : Sto) : pr.call F (k + 1) f_Signs_whole [a0] st = finish st (runB (evSs (pr.cl F k) F b_Signs_whole [some a0, none] st)) := call_eq pr F k (fi := ⟨1, 2, b_Signs_whole⟩) rfl rfl
theorem u_is_spot (F k : Nat) (a0 : D) (st : Sto) : pr.call F (k + 1) f_is_spot [a0] st = finish st (runB (evSs (pr.cl F k) F b_is_spot [some a0] st)) := call_eq pr F k (fi := ⟨1, 1, b_is_spot⟩) rfl rfl
theorem u_is_number (F k : Nat) (a0 a1 a2 : D) (st : Sto) : pr.call F (k + 1) f_is_number [a0, a1, a2] st = finish st (runB (evSs (pr.cl F k) F b_is_number [some a0, some a1, some a2] st)) := call_eq pr F k (fi := ⟨3, 3, b_is_number⟩) rfl rfl
theorem u_pattern_parts (F k : Nat) (a0 a1 : D) (st : Sto) : pr.call F (k + 1) f_pattern_parts [a0, a1] st = finish st (runB (evSs (pr.cl F k) F b_pattern_parts [some a0, some a1, none] st)) := call_eq pr F k (fi := ⟨2, 3, b_pattern_parts⟩) rfl rfl
theorem u_build_parts (F k : Nat) (a0 a1 a2 : D) (st : Sto) : pr.call F (k + 1) f_build_parts [a0, a1, a2] st = finish st (runB (evSs (pr.cl F k) F b_build_parts [some a0, some a1, some a2, none, none] st)) := call_eq pr F k (fi := ⟨3, 5, b_build_parts⟩) rfl rfl
theorem u_Signs_part (F k : Nat) (a0 : D) (st : Sto) : pr.call F (k + 1) f_Signs_part [a0] st = finish st (runB (evSs (pr.cl F k) F b_Signs_part [some a0, none, none] st)) := call_eq pr F k (fi := ⟨1, 3, b_Signs_part⟩) rfl rfl
theorem u_is_label (F k : Nat) (a0 : D) (st : Sto) : pr.call F (k + 1) f_is_label [a0] st = finish st (runB (evSs (pr.cl F k) F b_is_label [some a0] st)) := call_eq pr F k (fi := ⟨1, 1, b_is_label⟩) rfl rfl
theorem u_has_path (F k : Nat) (a0 a1 : D) (st : Sto) : pr.call F (k + 1) f_has_path [a0, a1] st = finish st (runB (evSs (pr.cl F k) F b_has_path [some a0, some a1, none] st)) := call_eq pr F k (fi := ⟨2, 3, b_has_path⟩) rfl rfl
theorem u_Signs_here (F k : Nat) (a0 : D) (st : Sto) : pr.call F (k + 1) f_Signs_here [a0] st = finish st (runB (evSs (pr.cl F k) F b_Signs_here [some a0] st)) := call_eq pr F k (fi := ⟨1, 1, b_Signs_here⟩) rfl rfl
theorem u_Signs_take (F k : Nat) (a0 a1 : D) (st : Sto) : pr.call F (k + 1) f_Signs_take [a0, a1] st = finish st (runB (evSs (pr.cl F k) F b_Signs_take [some a0, some a1, none] st)) := call_eq pr F k (fi := ⟨2, 3, b_Signs_take⟩) rfl rfl
theorem u_Signs_do (F k : Nat) (a0 : D) (st : Sto) : pr.call F (k + 1) f_Signs_do [a0] st = finish st (runB (evSs (pr.cl F k) F b_Signs_do [some a0, none, none] st)) := call_eq pr F k (fi := ⟨1, 3, b_Signs_do⟩) rfl rfl
end Law
namespace Law
open Z
theorem take_spec (F k : Nat) (β : Bx) {m : Int} (h0 : 0 < m) (h1 : m < 1000) :
    ∃ r β', 0 ≤ r ∧ r < m ∧ ∀ rest, pr.call F (k + 1) f_law_take [.loc 0, .int m] (bx β rest) = .ok (.int r) (bx β' rest) := by
  obtain ⟨ns, s, few⟩ := β
  have h2 : m < 1073741824 := by omega
  cases ns with
  | nil =>
    refine ⟨s * 48271 % 2147483647 / 7 % m, ⟨[], s * 48271 % 2147483647, by simp⟩, Int.emod_nonneg _ (by omega), Int.emod_lt_of_pos _ h0, fun rest => ?_⟩
    rw [u_law_take]
    simp [b_law_take, h0, h2, fin_bx]
  | cons n ns =>
    have f2 : ns.length + 1 ≤ 63 := few
    by_cases c : n / m = 0 ∨ n / m = -1
    · refine ⟨n % m, ⟨ns, s, Nat.le_of_succ_le few⟩, Int.emod_nonneg _ (by omega), Int.emod_lt_of_pos _ h0, fun rest => ?_⟩
      rw [u_law_take]
      rcases c with c | c <;> simp [b_law_take, h0, h2, c, (by omega : ns.length ≤ 99999), fin_bx]
    · refine ⟨n % m, ⟨n / m :: ns, s, few⟩, Int.emod_nonneg _ (by omega), Int.emod_lt_of_pos _ h0, fun rest => ?_⟩
      rw [not_or] at c
      rw [u_law_take]
      simp [b_law_take, h0, h2, c, fin_bx]
/-- the box is made -/
theorem begun_spec (F k : Nat) {ns : List Int} (hl : ns.length ≤ 63) : ∃ β : Bx, pr.call F (k + 1) f_law_begun [.fl (ns.map D.int)] [] = .ok (.loc 0) (bx β []) := by
  obtain ⟨ρ', st', h1, rfl, s, v, rfl⟩ := for_inv (w := ⟨ns.map D.int, none⟩) (tg := .name 2) (b := evSs (pr.cl F k) F l_law_begunb) (ρ := [some (.fl (ns.map D.int)), some (.int 0), none]) (st := []) ns D.int
    (fun _ ρ st => st = [] ∧ ∃ (z : Int) (v : Option D), ρ = [some (.fl (ns.map D.int)), some (.int z), v]) rfl (fun _ _ _ _ => rfl)
    (by
      intro i a ρ s ha ⟨e1, z, v, e2⟩
      subst e1 e2
      refine ⟨_, _, _, rfl, .inl ?_, rfl, (z * 48271 + a * 69621 + 11) % 2147483647, some (.int a), rfl⟩
      simp [l_law_begunb]) ⟨rfl, 0, none, rfl⟩
  refine ⟨⟨ns, s * (if decide (2 < (ns.length : Int)) then 1 else 0), hl⟩, ?_⟩
  rw [u_law_begun]
  have h64 : (-18446744073709551616 < (if (2 : Int) < (ns.length : Int) then (1 : Int) else 0) ∧ (if (2 : Int) < (ns.length : Int) then (1 : Int) else 0) < 18446744073709551616) := by split <;> decide
  simp [b_law_begun, l_law_begun, h1, h64]
  rw [fin_begun]
theorem is_number_spec (F k : Nat) {n lo hi : Int} {st : Sto} (h1 : lo ≤ n) (h2 : n ≤ hi) : pr.call F (k + 1) f_is_number [.int n, .int lo, .int hi] st = .ok (.bl true) st := by
  rw [u_is_number]; simp [b_is_number, h1, h2]
theorem is_label_spec (F k : Nat) {c : Nat} {st : Sto} (hc : 97 ≤ c ∧ c ≤ 102) : pr.call F (k + 1) f_is_label [.str [c]] st = .ok (.bl true) st := by
  rw [u_is_label]; simp [b_is_label]; omega
end Law
namespace Law
open Z
theorem alike_spec (F k : Nat) : ∀ (d : D) (st : Sto), depD d ≤ k → purD d = true → sizD d ≤ 1000000 → pr.call F k f_law_alike [d, d] st = .ok (.bl true) st := by
  induction k with
  | zero => intro d st h; have := depD_pos d; omega
  | succ k ih =>
    intro d st hd hp hz
    rw [u_law_alike]
    cases d with
    | loc n => simp [purD] at hp
    | fl xs => simp [purD] at hp
    | non => simp [b_law_alike]
    | bl b => simp [b_law_alike]
    | int b => simp [b_law_alike]
    | str b => simp [b_law_alike]
    | tup xs =>
      have hzm : xs.length ≤ sizDs xs ∧ ∀ x ∈ xs, sizD x ≤ sizDs xs := by
        clear hd hp hz
        induction xs with
        | nil => exact ⟨Nat.zero_le _, fun x hx => nomatch hx⟩
        | cons y ys ih =>
          rw [sizDs]
          refine ⟨by have := ih.1; simp only [List.length_cons]; omega, fun x hx => ?_⟩
          rcases List.mem_cons.mp hx with rfl | h
          · omega
          · have := ih.2 x h; omega
      rw [sizD] at hz; rw [depD] at hd; rw [purD] at hp
      obtain ⟨ρ', st', e1, rfl, v, rfl⟩ := for_rng (n := xs.length) (tg := .name 2) (b := evSs (pr.cl F k) F l_law_alikeb) (ρ := [some (.tup xs), some (.tup xs), none]) (st := st)
        (fun _ ρ s => s = st ∧ ∃ v, ρ = [some (.tup xs), some (.tup xs), v])
        (by
          intro i ρ s hi ⟨e1, v, e2⟩
          subst e1 e2
          have hx : L2.atI xs (i : Int) = some xs[i] := atI_nat (List.getElem?_eq_getElem hi)
          have e := ih xs[i] s (by have := depDs_mem (List.getElem_mem hi); omega) (purDs_mem hp (List.getElem_mem hi)) (by have := hzm.2 _ (List.getElem_mem hi); omega)
          refine ⟨_, _, _, rfl, .inl ?_, rfl, some (.int i), rfl⟩
          simp [l_law_alikeb, hx, e]) ⟨rfl, none, rfl⟩
      have hi : iLim (xs.length : Int) := by unfold iLim; omega
      simp [b_law_alike, l_law_alike, hi, e1]
end Law
namespace Law
open Z
/-- letters -/
structure okL (L : Tx) : Prop where
  pos : 1 ≤ L.length
  few : L.length ≤ 6
  ok : ∀ x ∈ L, 97 ≤ x ∧ x ≤ 102
theorem take_letter (F k : Nat) (β : Bx) {L : Tx} (h : okL L) : ∃ c r β', (97 ≤ c ∧ c ≤ 102) ∧ c ∈ L ∧ L2.atI L r = some c ∧ ∀ rest, pr.call F (k + 1) f_law_take [.loc 0, .int L.length] (bx β rest) = .ok (.int r) (bx β' rest) := by
  obtain ⟨r, β', h0, h1, e⟩ := take_spec F k β (m := (L.length : Int)) (by have := h.pos; omega) (by have := h.few; omega)
  obtain ⟨c, hc, hat⟩ := take_int h0 h1
  exact ⟨c, r, β', h.ok c hc, hc, hat, e⟩
theorem getset {st : Sto} {l : Nat} {c c' : Cell} (h : st[l]? = some c) : (st.set l c')[l]? = some c' := set_here h
end Law
namespace Law
open Z
theorem eraseIdx_map {α β : Type} (f : α → β) : ∀ (l : List α) (i : Nat), (l.map f).eraseIdx i = (l.eraseIdx i).map f
  | [], _ => rfl
  | _ :: _, 0 => rfl
  | x :: l, i + 1 => by rw [List.map_cons, List.eraseIdx_cons_succ, List.eraseIdx_cons_succ, List.map_cons, eraseIdx_map f l i]
abbrev ltr (c : Nat) : D := .str [c]
end Law
namespace Law
open Z
theorem take_nat (F k : Nat) (β : Bx) (m : Nat) (h0 : 0 < m) (h1 : m < 1000) :
    ∃ (r : Nat) (β' : Bx), r < m ∧ ∀ rest, pr.call F (k + 1) f_law_take [.loc 0, .int (m : Int)] (bx β rest) = .ok (.int (r : Int)) (bx β' rest) := by
  obtain ⟨r, β', g0, g1, e⟩ := take_spec F k β (m := (m : Int)) (by omega) (by omega)
  obtain ⟨n, rfl⟩ := Int.eq_ofNat_of_zero_le g0
  exact ⟨n, β', by omega, e⟩
/-! ### the drawing of patterns -/
theorem pattern_spec (F : Nat) {L : Tx} (hL : okL L) : ∀ (k deep : Nat) (β : Bx), deep ≤ k → 1 ≤ deep → deep ≤ 3 →
    ∃ p β', okP p ∧ htP p ≤ deep ∧ ∀ rest, pr.call F (k + 2) f_law_pattern [.loc 0, .str L, .int deep] (bx β rest) = .ok (dP p) (bx β' rest) := by
  intro k
  induction k with
  | zero => intro deep β h1 h2; omega
  | succ k ih =>
    intro deep β hdk hd1 hd3
    obtain ⟨way, β1, hw, e1⟩ := take_nat F (k + 1) β 6 (by decide) (by decide)
    have e1 : ∀ rest, pr.call F (k + 2) f_law_take [.loc 0, .int 6] (bx β rest) = _ := e1
    have hLl : L.length ≤ 100000 := by have := hL.few; omega
    by_cases c : deep < 2 ∨ way < 2
    · obtain ⟨a, ra, β2, ha, _, hat, e2⟩ := take_letter F (k + 1) β1 hL
      obtain ⟨r, β3, hr, e3⟩ := take_nat F (k + 1) β2 4 (by decide) (by decide)
      have e3 : ∀ rest, pr.call F (k + 2) f_law_take [.loc 0, .int 4] (bx β2 rest) = _ := e3
      have hc : (deep : Int) < 2 ∨ (way : Int) < 2 := by omega
      have go : ∀ p : Pt, L2.atI [D.tup [.str [97, 110, 121]], D.tup [.str [97, 110, 121]], D.tup [.str [108, 101, 97, 102]], D.tup [.str [a], .tup []]] (r : Int) = some (dP p) → clD 0 (dP p) = true →
          ∀ rest, pr.call F (k + 3) f_law_pattern [.loc 0, .str L, .int deep] (bx β rest) = .ok (dP p) (bx β3 rest) := fun p hp hcl rest => by
        rw [u_law_pattern]
        by_cases c1 : (deep : Int) < 2
        · simp [b_law_pattern, e1, e2, e3, c1, hLl, hat, hp]
          rw [fin_bx hcl]
        · have c2 : (way : Int) < 2 := hc.resolve_left c1
          simp [b_law_pattern, e1, e2, e3, c1, c2, hLl, hat, hp]
          rw [fin_bx hcl]
      have : r = 0 ∨ r = 1 ∨ r = 2 ∨ r = 3 := by omega
      rcases this with rfl | rfl | rfl | rfl
      · exact ⟨.any, β3, trivial, by rw [htP]; omega, go .any (by simp [dP]) (by simp [dP])⟩
      · exact ⟨.any, β3, trivial, by rw [htP]; omega, go .any (by simp [dP]) (by simp [dP])⟩
      · exact ⟨.leaf, β3, trivial, by rw [htP]; omega, go .leaf (by simp [dP]) (by simp [dP])⟩
      · exact ⟨.node a [], β3, ⟨ha, by simp, trivial⟩, by rw [htP, htPs]; omega, go (.node a []) (by simp [dP, dPs]) (by simp [dP, dPs])⟩
    · obtain ⟨c1, c2⟩ := not_or.mp c
      obtain ⟨m, β2, hm, e2⟩ := take_nat F (k + 1) β1 4 (by decide) (by decide)
      have e2 : ∀ rest, pr.call F (k + 2) f_law_take [.loc 0, .int 4] (bx β1 rest) = _ := e2
      obtain ⟨a, ra, β3, ha, _, hat, e3⟩ := take_letter F (k + 1) β2 hL
      have turns : ∀ (xs : List D) (β : Bx), ∃ (ks : List Pt) (β' : Bx), okPs ks ∧ htPs ks + 1 ≤ deep ∧ ks.length = xs.length ∧ ∀ (w : Wk) rest, w.l = none →
          compL w (turnC (pr.cl F (k + 2)) (.name 5) [5] .none c_law_patterne [some (.loc 0), some (.str L), some (.int deep), some (.int way), some (.int m), none]) xs (bx β rest) = .ok (ks.map dP) (bx β' rest) := by
        intro xs
        induction xs with
        | nil => exact fun β => ⟨[], β, trivial, by rw [htPs]; omega, rfl, fun w rest hw => compL_nil (stays_w hw)⟩
        | cons x xs ihx =>
          intro β
          obtain ⟨p, β1, o1, o2, e1⟩ := ih (deep - 1) β (by omega) (by omega) (by omega)
          obtain ⟨ks, β2, k1, k2, k3, k4⟩ := ihx β1
          refine ⟨p :: ks, β2, ⟨o1, k1⟩, by rw [htPs]; omega, by simp [k3], fun w rest hw => compL_cons (stays_w hw) ?_ (k4 w rest hw)⟩
          rw [show ((deep - 1 : Nat) : Int) = (deep : Int) - 1 by omega] at e1
          simp [c_law_patterne, e1]
      obtain ⟨ks, β4, k1, k2, k3, k4⟩ := turns (rngW 0 m).xs β3
      rw [rng_len] at k3
      refine ⟨.node a ks, β4, ⟨ha, by omega, k1⟩, by rw [htP]; omega, fun rest => ?_⟩
      have hi : iLim (m : Int) := by unfold iLim; omega
      have hc := comp_ok (C := pr.cl F (k + 2)) (e := c_law_patterne) (it := .rng1 (.var 4)) (st := bx β3 rest) (by simp [hi]) (k4 _ rest rfl) (by rw [List.length_map]; show _ ≤ 100000; omega)
      have hc' : ev (pr.cl F (k + 2)) c_law_pattern [some (.loc 0), some (.str L), some (.int deep), some (.int way), some (.int m), none] (bx β3 rest) = _ := hc
      have c1' : ¬ (deep : Int) < 2 := by omega
      have c2' : ¬ (way : Int) < 2 := by omega
      rw [u_law_pattern]
      simp [b_law_pattern, e1, e2, e3, c1', c2', hLl, hat, hc']
      rw [fin_bx]
      · rw [dP, dPs_map]
      · simp [← dPs_map]
        exact pls_cl (dPs_pl _ k1)
/-! ### parts -/
theorem parts_P (F : Nat) : ∀ (k : Nat) (p : Pt) (st : Sto), htP p ≤ k → okP p → pr.call F (k + 1) f_law_parts [dP p] st = .ok (.int (szP p)) st := by
  intro k
  induction k with
  | zero => intro p st h1; have := htP_pos p; omega
  | succ k ih =>
    intro p st h1 ok
    rw [u_law_parts]
    cases p with
    | any => simp [b_law_parts, dP, szP]
    | leaf => simp [b_law_parts, dP, szP]
    | node c ks =>
      rw [okP] at ok
      rw [htP] at h1
      have hc : ev (pr.cl F (k + 1)) c_law_parts [some (dP (.node c ks)), none] st = .ok (.loc st.length) (st ++ [.lst (ks.map fun t => D.int (szP t))]) := by
        refine comp_map (u := dP) (w := ⟨ks.map dP, none⟩) (s1 := st) ?_ rfl rfl (by show _ ≤ 100000; omega) fun t ht => ?_
        · simp [dP, dPs_map]
        · simp [c_law_partse, ih t st (by have := htPs_le ht; omega) (okPs_mem ok.2.2 ht)]
      have hs := szPs_sum ks
      have hi : intsD (ks.map fun t => D.int (szP t)) = some (ks.map fun t => (szP t : Int)) := by
        clear hc ok h1 hs
        induction ks with
        | nil => rfl
        | cons x xs ih => rw [List.map_cons, List.map_cons, intsD, ih]
      rw [dP] at hc ⊢
      simp [b_law_parts, hc, hi, hs, szP]
theorem parts_B (F : Nat) {P : Pt} : ∀ (k : Nat) (p : Bd) (st : Sto), htB p ≤ k → okB P p → pr.call F (k + 1) f_law_parts [dB p] st = .ok (.int (szB p)) st := by
  intro k
  induction k with
  | zero => intro p st h1; have := htB_pos p; omega
  | succ k ih =>
    intro p st h1 ok
    rw [u_law_parts]
    cases p with
    | go s p => simp [b_law_parts, dB, szB]
    | node c ks =>
      rw [okB] at ok
      rw [htB] at h1
      have hc : ev (pr.cl F (k + 1)) c_law_parts [some (dB (.node c ks)), none] st = .ok (.loc st.length) (st ++ [.lst (ks.map fun t => D.int (szB t))]) := by
        refine comp_map (u := dB) (w := ⟨ks.map dB, none⟩) (s1 := st) ?_ rfl rfl (by show _ ≤ 100000; omega) fun t ht => ?_
        · simp [dB, dBs_map]
        · simp [c_law_partse, ih t st (by have := htBs_le ht; omega) (okBs_mem ok.2.2 ht)]
      have hs := szBs_sum ks
      have hi : intsD (ks.map fun t => D.int (szB t)) = some (ks.map fun t => (szB t : Int)) := by
        clear hc ok h1 hs
        induction ks with
        | nil => rfl
        | cons x xs ih => rw [List.map_cons, List.map_cons, intsD, ih]
      rw [dB] at hc ⊢
      simp [b_law_parts, hc, hi, hs, szB]
end Law
namespace Law
open Z
/-- the paths that begin with a kid -/
def pathsK (ks : List Pt) (k : Nat) : List (List Nat) := [k] :: (match ks[k]? with | some (.node _ js) => (List.range js.length).map fun j => [k, j] | _ => [])
def pathsP : Pt → List (List Nat)
  | .node _ ks => (List.range ks.length).flatMap (pathsK ks)
  | _ => []
theorem pathsK_len (ks : List Pt) (k : Nat) (h : okPs ks) : (pathsK ks k).length ≤ 4 := by
  unfold pathsK
  split
  · rename_i c js e
    have := okPs_mem h (List.mem_of_getElem? e)
    rw [okP] at this
    simp; omega
  · simp
theorem flatMap_len {α β : Type} (f : α → List β) (m : Nat) : ∀ (l : List α), (∀ a ∈ l, (f a).length ≤ m) → (l.flatMap f).length ≤ l.length * m
  | [], _ => by simp
  | a :: l, h => by
    rw [List.flatMap_cons, List.length_append, List.length_cons, Nat.succ_mul]
    have h1 := h a List.mem_cons_self
    have h2 := flatMap_len f m l fun b hb => h b (List.mem_cons_of_mem _ hb)
    omega
theorem pathsP_len {p : Pt} (h : okP p) : (pathsP p).length ≤ 12 := by
  cases p with
  | any => simp [pathsP]
  | leaf => simp [pathsP]
  | node c ks =>
    rw [okP] at h
    rw [pathsP]
    have := flatMap_len (pathsK ks) 4 (List.range ks.length) fun k _ => pathsK_len ks k h.2.2
    rw [List.length_range] at this
    omega
theorem pathsP_ok {p : Pt} {q : List Nat} (h : q ∈ pathsP p) : 1 ≤ q.length ∧ q.length ≤ 2 ∧ ∃ s, subP p q = some s := by
  cases p with
  | any => simp [pathsP] at h
  | leaf => simp [pathsP] at h
  | node c ks =>
    rw [pathsP, List.mem_flatMap] at h
    obtain ⟨k, hk, h⟩ := h
    rw [List.mem_range] at hk
    have hg : ks[k]? = some ks[k] := List.getElem?_eq_getElem hk
    unfold pathsK at h
    rcases List.mem_cons.mp h with rfl | h
    · exact ⟨by simp, by simp, ks[k], by simp [subP, hg]⟩
    · split at h
      · rename_i c' js e
        obtain ⟨j, hj, rfl⟩ := List.mem_map.mp h
        rw [List.mem_range] at hj
        refine ⟨by simp, by simp, js[j], ?_⟩
        simp [subP, e, List.getElem?_eq_getElem hj]
      · cases h
theorem paths_spec (F k : Nat) {p : Pt} (ok : okP p) {st : Sto} : pr.call F (k + 1) f_law_paths [dP p] st = .ok (.loc st.length) (st ++ [.lst ((pathsP p).map dPa)]) := by
  rw [u_law_paths]
  cases p with
  | any => simp [b_law_paths, dP, pathsP]; exact finish_newL st [.lst []] (j := 0) rfl rfl
  | leaf => simp [b_law_paths, dP, pathsP]; exact finish_newL st [.lst []] (j := 0) rfl rfl
  | node c ks =>
    have ok0 := ok
    rw [okP] at ok
    have hl : (dPs ks).length = ks.length := by rw [dPs_map]; simp
    have hat : ∀ i : Nat, (h : i < ks.length) → L2.atI (dPs ks) (i : Int) = some (dP ks[i]) := fun i h => atI_nat (by rw [dPs_map, List.getElem?_map, List.getElem?_eq_getElem h]; rfl)
    obtain ⟨ρ', st', e1, v, g, rfl, rfl⟩ := for_rng (n := ks.length) (tg := .name 2) (b := evSs (pr.cl F k) F l_law_pathsb) (ρ := [some (dP (.node c ks)), some (.loc st.length), none, none]) (st := st ++ [.lst []])
      (fun i ρ s => ∃ v g, ρ = [some (dP (.node c ks)), some (.loc st.length), v, none] ∧ s = st ++ .lst (((List.range i).flatMap (pathsK ks)).map dPa) :: g)
      (by
        rintro i ρ s hi ⟨v, g, rfl, rfl⟩
        refine ⟨_, _, _, rfl, .inl ?_, some (.int i), ?_, rfl, rfl⟩
        rotate_left
        · exact g ++ (match ks[i] with | .node _ js => [.lst ((List.range js.length).map fun (j : Nat) => D.tup [.int i, .int j])] | _ => [])
        rw [List.range_succ, List.flatMap_append, List.flatMap_cons, List.flatMap_nil, List.append_nil]
        have hx := hat i hi
        have hlen : ((List.range i).flatMap (pathsK ks)).length ≤ 12 := by
          have := flatMap_len (pathsK ks) 4 (List.range i) fun k _ => pathsK_len ks k ok.2.2
          rw [List.length_range] at this
          omega
        have hg : ks[i]? = some ks[i] := List.getElem?_eq_getElem hi
        have okk := okPs_mem ok.2.2 (List.getElem_mem hi)
        have hpk : pathsK ks i = [i] :: (match ks[i] with | .node _ js => (List.range js.length).map fun j => [i, j] | _ => []) := by
          unfold pathsK; rw [hg]; cases ks[i] <;> rfl
        rw [hpk]
        generalize (List.range i).flatMap (pathsK ks) = A at hlen ⊢
        have hA : A.length < 100000 := by omega
        have hA2 : A.length < 99999 := by omega
        revert hx okk
        generalize ks[i] = K
        intro hx okk
        cases K with
        | any => simp [l_law_pathsb, dP, hx, dPa, hA]
        | leaf => simp [l_law_pathsb, dP, hx, dPa, hA]
        | node c' js =>
          rw [okP] at okk
          have hl' : (dPs js).length = js.length := by rw [dPs_map]; simp
          have hi' : iLim (js.length : Int) := by unfold iLim; omega
          have hc : ∀ s1, ev (pr.cl F k) c_law_paths [some (dP (.node c ks)), some (.loc st.length), some (.int (i : Int)), none] s1 = .ok (.loc s1.length) (s1 ++ [.lst ((List.range js.length).map fun (j : Nat) => D.tup [.int i, .int j])]) := fun s1 => by
            refine comp_rng (n := js.length) ?_ (by show _ ≤ 100000; omega) ?_
            · simp [dP, hx, hl', hi']
            · intro j hj
              simp [c_law_pathse]
          have hz : A.length + 1 + js.length ≤ 100000 := by omega
          simp only [dP] at hc hx ⊢
          simp [l_law_pathsb, hx, hc, dPa, hA, hz, Function.comp_def]) ⟨none, [], rfl, rfl⟩
    have hi : iLim (ks.length : Int) := by unfold iLim; omega
    rw [dP] at e1 ⊢
    simp [b_law_paths, l_law_paths, hl, hi, e1]
    have := finish_newL st (.lst (((List.range ks.length).flatMap (pathsK ks)).map dPa) :: g) (j := 0) rfl (by
      show (locsDs _).all _ = true
      rw [pls_locs (plDs_map fun a _ => dPa_pl a)]; rfl)
    rw [Nat.add_zero] at this
    rw [this, pathsP]
end Law
namespace Law
open Z
/-- states: some of 0 to 5 -/
structure okSt (S : List Nat) : Prop where
  pos : 1 ≤ S.length
  few : S.length ≤ 6
  ok : ∀ x ∈ S, x ≤ 5
def dN (n : Nat) : D := .int n
theorem dB_cl {P : Pt} {b : Bd} (h : okB P b) : clD 0 (dB b) = true := pl_cl (dB_pl b h)
/-! ### the drawing of builds -/
theorem build_spec (F : Nat) {L : Tx} (hL : okL L) {S : List Nat} (hS : okSt S) {P : Pt} {ps : List (List Nat)} (hps : ∀ q ∈ ps, 1 ≤ q.length ∧ q.length ≤ 2 ∧ ∃ s, subP P q = some s) (hpl : ps.length ≤ 12) : ∀ (k deep : Nat) (β : Bx), deep ≤ k → 1 ≤ deep → deep ≤ 4 →
    ∃ b β', okB P b ∧ htB b ≤ deep ∧ ∀ rest i j, rest[i]? = some (.lst (S.map dN)) → rest[j]? = some (.lst (ps.map dPa)) → pr.call F (k + 2) f_law_build [.loc 0, .str L, .loc (i + 2), .loc (j + 2), .int deep] (bx β rest) = .ok (dB b) (bx β' rest) := by
  intro k
  induction k with
  | zero => intro deep β h1 h2; omega
  | succ k ih =>
    intro deep β hdk hd1 hd4
    have hLl : L.length ≤ 100000 := by have := hL.few; omega
    -- the end without a do
    have tail : ∀ β : Bx, ∃ b β', okB P b ∧ htB b ≤ deep ∧ ∀ (ss : ISs), ∀ rest i j v5 v6, rest[i]? = some (.lst (S.map dN)) → rest[j]? = some (.lst (ps.map dPa)) →
        ∃ ρ' g, evSs (pr.cl F (k + 2)) F (.cons (.asg (.name 5) (.bin .mul (.call f_law_take (.cons (.var 0) (.cons (.cst (.int 4)) .nil))) (.bi .int (.cmp .gt (.var 4) (.cst (.int 1)))))) (.cons (.asg (.name 6) c_law_build) (.cons (.ret (.tup (.cons (.ix (.var 1) (.call f_law_take (.cons (.var 0) (.cons (.bi .len (.var 1)) .nil)))) (.cons (.bi .tuple (.var 6)) .nil)))) .nil)))
          [some (.loc 0), some (.str L), some (.loc (i + 2)), some (.loc (j + 2)), some (.int deep), v5, v6, none] (bx β rest) = .ok (.rt (dB b)) ρ' (bx β' (rest ++ g)) := by
      intro β
      obtain ⟨m0, β2, hm, e2⟩ := take_nat F (k + 1) β 4 (by decide) (by decide)
      have e2 : ∀ rest, pr.call F (k + 2) f_law_take [.loc 0, .int 4] (bx β rest) = _ := e2
      have turns : ∀ (xs : List D) (β : Bx), (xs ≠ [] → 2 ≤ deep) → ∃ (ks : List Bd) (β' : Bx), okBs P ks ∧ htBs ks + 1 ≤ deep ∧ ks.length = xs.length ∧ ∀ (w : Wk) rest i j v5 v6, w.l = none → rest[i]? = some (.lst (S.map dN)) → rest[j]? = some (.lst (ps.map dPa)) →
          compL w (turnC (pr.cl F (k + 2)) (.name 7) [7] .none c_law_builde [some (.loc 0), some (.str L), some (.loc (i + 2)), some (.loc (j + 2)), some (.int deep), v5, v6, none]) xs (bx β rest) = .ok (ks.map dB) (bx β' rest) := by
        intro xs
        induction xs with
        | nil => exact fun β _ => ⟨[], β, trivial, by rw [htBs]; omega, rfl, fun w rest i j v5 v6 hw _ _ => compL_nil (stays_w hw)⟩
        | cons x xs ihx =>
          intro β hx
          have h2 := hx (by simp)
          obtain ⟨b, β1, o1, o2, e1⟩ := ih (deep - 1) β (by omega) (by omega) (by omega)
          obtain ⟨ks, β2, k1, k2, k3, k4⟩ := ihx β1 (fun _ => h2)
          refine ⟨b :: ks, β2, ⟨o1, k1⟩, by rw [htBs]; omega, by simp [k3], fun w rest i j v5 v6 hw hi hj => compL_cons (stays_w hw) ?_ (k4 w rest i j v5 v6 hw hi hj)⟩
          have e1 := e1 rest i j hi hj
          rw [show ((deep - 1 : Nat) : Int) = (deep : Int) - 1 by omega] at e1
          simp [c_law_builde, e1]
      let m : Nat := if 1 < deep then m0 else 0
      have hmd : (m0 : Int) * (if (1 : Int) < (deep : Int) then 1 else 0) = (m : Int) := by
        by_cases c : 1 < deep
        · have : (1 : Int) < deep := by omega
          simp [m, c, this]
        · have : ¬ (1 : Int) < deep := by omega
          simp [m, c, this]
      have hm3 : m < 4 := by show (if _ then _ else _) < 4; split <;> omega
      obtain ⟨ks, β3, k1, k2, k3, k4⟩ := turns (rngW 0 m).xs β2 (fun h => by
        by_cases c : 1 < deep
        · omega
        · exfalso; apply h
          have : m = 0 := by simp [m, c]
          rw [this]; rfl)
      rw [rng_len] at k3
      obtain ⟨a, ra, β4, ha, _, hat, e3⟩ := take_letter F (k + 1) β3 hL
      refine ⟨.node a ks, β4, ⟨ha, by omega, k1⟩, by rw [htB]; omega, fun ss rest i j v5 v6 hi hj => ?_⟩
      have him : iLim (m : Int) := by unfold iLim; omega
      have hc := comp_ok (C := pr.cl F (k + 2)) (e := c_law_builde) (it := .rng1 (.var 5)) (st := bx β2 rest) (by simp [him]) (k4 _ rest i j (some (.int m)) v6 rfl hi hj) (by rw [List.length_map]; show _ ≤ 100000; omega)
      have hc' : ev (pr.cl F (k + 2)) c_law_build [some (.loc 0), some (.str L), some (.loc (i + 2)), some (.loc (j + 2)), some (.int deep), some (.int m), v6, none] (bx β2 rest) = _ := hc
      have hb : -18446744073709551616 < (m0 : Int) ∧ (m0 : Int) < 18446744073709551616 := by omega
      refine ⟨[some (.loc 0), some (.str L), some (.loc (i + 2)), some (.loc (j + 2)), some (.int deep), some (.int m), some (.loc (rest.length + 2)), none], [.lst (ks.map dB)], ?_⟩
      simp [e2, hb, hmd, hc', hLl, e3, hat, dB, dBs_map]
    have hne : ps.map dPa = [] ↔ ps = [] := by simp
    by_cases c0 : ps = []
    · obtain ⟨b, β', o1, o2, e⟩ := tail β
      refine ⟨b, β', o1, o2, fun rest i j hi hj => ?_⟩
      obtain ⟨ρ', g, e⟩ := e .nil (rest ++ [.lst []]) i j none none (app_at _ hi) (app_at _ hj)
      rw [u_law_build]
      simp [b_law_build, hj, app_at _ hj, c0, -ys_cons, ys_cons (s := .ite _ _ _), e, fin_bx, dB_cl o1]
    · obtain ⟨r, β1, hr, e1⟩ := take_nat F (k + 1) β 3 (by decide) (by decide)
      have e1 : ∀ rest, pr.call F (k + 2) f_law_take [.loc 0, .int 3] (bx β rest) = _ := e1
      by_cases hr0 : 0 < r
      · obtain ⟨a, β2, ha, e2⟩ := take_nat F (k + 1) β1 S.length hS.pos (by have := hS.few; omega)
        obtain ⟨b, β3, hb, e3⟩ := take_nat F (k + 1) β2 ps.length (List.length_pos_iff.mpr c0) (by omega)
        have hat : L2.atI (S.map dN) (a : Int) = some (.int (S[a] : Nat)) := atI_nat (by rw [List.getElem?_map, List.getElem?_eq_getElem ha]; rfl)
        have hat2 : L2.atI (ps.map dPa) (b : Int) = some (dPa ps[b]) := atI_nat (by rw [List.getElem?_map, List.getElem?_eq_getElem hb]; rfl)
        obtain ⟨p1, p2, p3⟩ := hps _ (List.getElem_mem hb)
        have okb : okB P (.go S[a] ps[b]) := ⟨hS.ok _ (List.getElem_mem ha), p1, p2, p3⟩
        refine ⟨.go S[a] ps[b], β3, okb, by rw [htB]; omega, fun rest i j hi hj => ?_⟩
        have hpe : (ps.isEmpty) = false := by cases ps <;> simp at c0 ⊢
        have hc := dB_cl okb
        rw [dB] at hc ⊢
        rw [u_law_build]
        simp [b_law_build, hj, app_at _ hj, app_at _ hi, hpe, e1, hr0, e2, e3, hat, hat2]
        rw [fin_bx hc]
      · obtain ⟨b, β', o1, o2, e⟩ := tail β1
        refine ⟨b, β', o1, o2, fun rest i j hi hj => ?_⟩
        obtain ⟨ρ', g, e⟩ := e .nil (rest ++ [.lst []]) i j none none (app_at _ hi) (app_at _ hj)
        have hpe : (ps.isEmpty) = false := by cases ps <;> simp at c0 ⊢
        rw [u_law_build]
        simp [b_law_build, hj, app_at _ hj, hpe, e1, hr0, -ys_cons, ys_cons (s := .ite _ _ _), e, fin_bx, dB_cl o1]
end Law
namespace Law
open Z
theorem htPs_0 {ks : List Pt} (h : htPs ks = 0) : ks = [] := by
  cases ks with
  | nil => rfl
  | cons p ps => rw [htPs] at h; have := htP_pos p; omega
theorem szPs_le {m : Nat} : ∀ {ks : List Pt}, (∀ p ∈ ks, szP p ≤ m) → szPs ks ≤ ks.length * m
  | [], _ => by simp [szPs]
  | p :: ps, h => by
    rw [szPs, List.length_cons, Nat.succ_mul]
    have := h p List.mem_cons_self
    have := szPs_le fun q hq => h q (List.mem_cons_of_mem _ hq)
    omega
theorem szP1 {p : Pt} (h : htP p ≤ 1) : szP p ≤ 1 := by
  cases p with
  | any => simp [szP]
  | leaf => simp [szP]
  | node c ks => rw [htP] at h; rw [htPs_0 (by omega : htPs ks = 0)]; simp [szP, szPs]
theorem szP2 {p : Pt} (ok : okP p) (h : htP p ≤ 2) : szP p ≤ 4 := by
  cases p with
  | any => simp [szP]
  | leaf => simp [szP]
  | node c ks =>
    rw [htP] at h; rw [szP]; rw [okP] at ok
    have := szPs_le (m := 1) (ks := ks) fun p hp => szP1 (by have := htPs_le hp; omega)
    omega
theorem szP3 {c : Nat} {ks : List Pt} (ok : okP (.node c ks)) (h : htP (.node c ks) ≤ 3) : szP (.node c ks) ≤ 1 + ks.length * 4 := by
  rw [htP] at h; rw [szP]; rw [okP] at ok
  have := szPs_le (m := 4) (ks := ks) fun p hp => szP2 (okPs_mem ok.2.2 hp) (by have := htPs_le hp; omega)
  omega
theorem dPs_any (n : Nat) : dPs (List.replicate n Pt.any) = List.replicate n (D.tup [.str [97, 110, 121]]) := by
  rw [dPs_map, List.map_replicate, dP]
theorem okPs_any (n : Nat) : okPs (List.replicate n Pt.any) := by
  induction n with
  | zero => trivial
  | succ n ih => exact ⟨trivial, ih⟩
theorem szPs_any (n : Nat) : szPs (List.replicate n Pt.any) = n := by
  induction n with
  | zero => rfl
  | succ n ih => rw [List.replicate_succ, szPs, ih, szP]; omega
theorem htPs_any (n : Nat) : htPs (List.replicate n Pt.any) ≤ 1 := by
  induction n with
  | zero => simp [htPs]
  | succ n ih => rw [List.replicate_succ, htPs, htP]; omega
/-! ### the drawing of rules -/
theorem rule_spec (F k : Nat) {L : Tx} (hL : okL L) {S : List Nat} (hS : okSt S) (β : Bx) :
    ∃ r β', okR r ∧ ∀ rest i, rest[i]? = some (.lst (S.map dN)) → pr.call F (k + 10) f_law_rule [.loc 0, .str L, .loc (i + 2)] (bx β rest) = .ok (dR r) (bx β' rest) := by
  have hLl : L.length ≤ 100000 := by have := hL.few; omega
  obtain ⟨d1, β1, hd1, e1⟩ := take_nat F (k + 8) β 3 (by decide) (by decide)
  obtain ⟨p, β2, okp, hp, e2⟩ := pattern_spec F hL (k + 7) (1 + d1) β1 (by omega) (by omega) (by omega)
  have e3 := fun st => parts_P F (k + 8) p st (by omega) okp
  -- the pattern that stays
  obtain ⟨p', okp', hp', hz', e4⟩ : ∃ p', okP p' ∧ htP p' ≤ 3 ∧ szP p' ≤ 7 ∧ ∀ rest i v4 v5 v6, evS (pr.cl F (k + 9)) F (.ite (.cmp .gt (.call f_law_parts (.cons (.var 3) .nil)) (.cst (.int 7))) (.cons (.asg (.name 3) (.tup (.cons (.ix (.var 3) (.cst (.int 0))) (.cons (.bin .mul (.tup (.cons (.tup (.cons (.cst (.str [97, 110, 121])) .nil)) .nil)) (.bi .len (.ix (.var 3) (.cst (.int 1))))) .nil)))) .nil) .nil) [some (.loc 0), some (.str L), some (.loc (i + 2)), some (dP p), v4, v5, v6] (bx β2 rest) =
      .ok .nx [some (.loc 0), some (.str L), some (.loc (i + 2)), some (dP p'), v4, v5, v6] (bx β2 rest) := by
    by_cases c : 7 < szP p
    · cases p with
      | any => simp [szP] at c
      | leaf => simp [szP] at c
      | node a ks =>
        have h3 := szP3 okp (by omega)
        have ok2 := okp
        rw [okP] at ok2
        have hk2 : 2 ≤ ks.length := by omega
        have hlen : (dPs ks).length = ks.length := by rw [dPs_map]; simp
        have hc : (7 : Int) < (szP (.node a ks) : Int) := by omega
        refine ⟨.node a (List.replicate ks.length .any), ⟨ok2.1, by simp [ok2.2.1], okPs_any _⟩, by rw [htP]; have := htPs_any ks.length; omega, by rw [szP, szPs_any]; omega, fun rest i v4 v5 v6 => ?_⟩
        rw [dP] at e3
        rw [dP, dP, dPs_any]
        have hk : (2 : Int) ≤ (ks.length : Int) ∧ (ks.length : Int) ≤ 1000 := by omega
        simp [e3, hc, hlen, hk]
    · have hc : ¬ (7 : Int) < (szP p : Int) := by omega
      refine ⟨p, okp, by omega, by omega, fun rest i v4 v5 v6 => ?_⟩
      simp [e3, hc]
  obtain ⟨d2, β3, hd2, e5⟩ := take_nat F (k + 8) β2 4 (by decide) (by decide)
  have e6 := fun st => paths_spec F (k + 8) okp' (st := st)
  obtain ⟨b, β4, okb, hb, e7⟩ := build_spec F hL hS (fun q hq => pathsP_ok hq) (pathsP_len okp') (k + 7) (1 + d2) β3 (by omega) (by omega) (by omega)
  have e8 := fun st => parts_B F (k + 8) b st (by omega) okb
  -- the build that stays
  obtain ⟨b', okb', hb', hz2, e9⟩ : ∃ b', okB p' b' ∧ htB b' ≤ 4 ∧ szB b' ≤ 12 ∧ ∀ rest i v4 v6, evS (pr.cl F (k + 9)) F (.ite (.cmp .gt (.call f_law_parts (.cons (.var 5) .nil)) (.cst (.int 12))) (.cons (.asg (.name 5) (.ite (.cmp .lt (.call f_law_parts (.cons (.ix (.ix (.var 5) (.cst (.int 1))) (.cst (.int 0))) .nil)) (.cst (.int 12))) (.tup (.cons (.ix (.var 5) (.cst (.int 0))) (.cons (.sl (.ix (.var 5) (.cst (.int 1))) .none (.some (.cst (.int 1)))) .nil))) (.tup (.cons (.ix (.var 5) (.cst (.int 0))) (.cons (.tup .nil) .nil))))) .nil) .nil) [some (.loc 0), some (.str L), some (.loc (i + 2)), some (dP p'), v4, some (dB b), v6] (bx β4 rest) =
      .ok .nx [some (.loc 0), some (.str L), some (.loc (i + 2)), some (dP p'), v4, some (dB b'), v6] (bx β4 rest) := by
    by_cases c : 12 < szB b
    · cases b with
      | go s q => simp [szB] at c
      | node a ks =>
        cases ks with
        | nil => simp [szB, szBs] at c
        | cons x ks =>
          have ok2 := okb
          rw [okB] at ok2
          have okx := ok2.2.2.1
          have hc : (12 : Int) < (szB (.node a (x :: ks)) : Int) := by omega
          rw [htB, htBs] at hb
          have e10 := fun st => parts_B F (k + 8) x st (by omega) okx
          rw [dB, dBs] at e8
          by_cases c2 : szB x < 12
          · have hc2 : (szB x : Int) < 12 := by omega
            refine ⟨.node a [x], ⟨ok2.1, by simp, okx, trivial⟩, by rw [htB, htBs, htBs]; omega, by rw [szB, szBs, szBs]; omega, fun rest i v4 v6 => ?_⟩
            rw [dB, dB, dBs, dBs, dBs]
            simp [e8, hc, e10, hc2]
          · have hc2 : ¬ (szB x : Int) < 12 := by omega
            refine ⟨.node a [], ⟨ok2.1, by simp, trivial⟩, by rw [htB, htBs]; omega, by rw [szB, szBs]; omega, fun rest i v4 v6 => ?_⟩
            rw [dB, dB, dBs, dBs]
            simp [e8, hc, e10, hc2]
    · have hc : ¬ (12 : Int) < (szB b : Int) := by omega
      refine ⟨b, okb, by omega, by omega, fun rest i v4 v6 => ?_⟩
      simp [e8, hc]
  obtain ⟨a, ra, β5, ha, _, hat, f1⟩ := take_letter F (k + 8) β4 hL
  obtain ⟨q, β6, hq, f2⟩ := take_nat F (k + 8) β5 3 (by decide) (by decide)
  obtain ⟨s, β7, hs, f3⟩ := take_nat F (k + 8) β6 S.length hS.pos (by have := hS.few; omega)
  obtain ⟨w, β8, hw, f4⟩ := take_nat F (k + 8) β7 6 (by decide) (by decide)
  have e1 : ∀ rest, pr.call F (k + 9) f_law_take [.loc 0, .int 3] (bx β rest) = _ := e1
  have e5 : ∀ rest, pr.call F (k + 9) f_law_take [.loc 0, .int 4] (bx β2 rest) = _ := e5
  have f2 : ∀ rest, pr.call F (k + 9) f_law_take [.loc 0, .int 3] (bx β5 rest) = _ := f2
  have f4 : ∀ rest, pr.call F (k + 9) f_law_take [.loc 0, .int 6] (bx β7 rest) = _ := f4
  have hatS : L2.atI (S.map dN) (s : Int) = some (.int (S[s] : Nat)) := atI_nat (by rw [List.getElem?_map, List.getElem?_eq_getElem hs]; rfl)
  obtain ⟨sp, oksp, hsp⟩ : ∃ sp, okSp sp ∧ L2.atI [D.non, D.non, D.non, D.tup [.str [116, 111, 112]], D.tup [.str [117, 110, 100, 101, 114], .str [a]], D.tup [.str [107, 105, 100], .int q]] (w : Int) = some (dSp sp) := by
    have : w = 0 ∨ w = 1 ∨ w = 2 ∨ w = 3 ∨ w = 4 ∨ w = 5 := by omega
    rcases this with rfl | rfl | rfl | rfl | rfl | rfl
    · exact ⟨.no, trivial, atI_nat rfl⟩
    · exact ⟨.no, trivial, atI_nat rfl⟩
    · exact ⟨.no, trivial, atI_nat rfl⟩
    · exact ⟨.top, trivial, atI_nat rfl⟩
    · exact ⟨.under a, ha, atI_nat rfl⟩
    · exact ⟨.kid q, (by show q ≤ 2; omega), atI_nat rfl⟩
  have okr : okR ⟨S[s], sp, p', b'⟩ := ⟨hS.ok _ (List.getElem_mem hs), oksp, okp', hp', hz', okb', hb', hz2⟩
  refine ⟨⟨S[s], sp, p', b'⟩, β8, okr, fun rest i hi => ?_⟩
  have hcl : clD 0 (dR ⟨S[s], sp, p', b'⟩) = true := pl_cl (dR_pl okr)
  have e7 := e7 (rest ++ [.lst ((pathsP p').map dPa)]) i rest.length (app_at _ hi) at_last
  rw [show ((1 + d1 : Nat) : Int) = 1 + (d1 : Int) by omega] at e2
  rw [show ((1 + d2 : Nat) : Int) = 1 + (d2 : Int) by omega] at e7
  rw [u_law_rule]
  simp [b_law_rule, e1, e2, e4, -y_ite, e6, e5, e7, e9, hLl, hat, f1, f2, app_at _ hi, f3, f4, hatS, hsp]
  rw [dR] at hcl ⊢
  rw [fin_bx hcl]
end Law
namespace Law
open Z
theorem atI_map {α : Type} {u : α → D} {l : List α} {i : Nat} (h : i < l.length) : L2.atI (l.map u) (i : Int) = some (u l[i]) := atI_nat (by rw [List.getElem?_map, List.getElem?_eq_getElem h]; rfl)
/-- the states' turns -/
theorem states_turns (F k : Nat) : ∀ (xs : List D) (β : Bx) (cs : List Nat), cs.length ≤ 5 → xs.length ≤ cs.length → (∀ x ∈ cs, x ≤ 5) → ∃ (ls : List Nat) (β' : Bx) (cs' : List Nat), ls.length = xs.length ∧ (∀ x ∈ ls, x ≤ 5) ∧
      ∀ (w : Wk) (rest g : Sto) a3 a4 a5, w.l = none → ∀ L, compL w (turnC (pr.cl F (k + 1)) (.name 6) [6] .none c_law_booke [some (.loc 0), some (.str L), some (.loc (rest.length + 2)), a3, a4, a5, none]) xs (bx β (rest ++ .lst (cs.map dN) :: g)) = .ok (ls.map dN) (bx β' (rest ++ .lst (cs'.map dN) :: g)) := by
  intro xs
  induction xs with
  | nil => exact fun β cs _ _ _ => ⟨[], β, cs, rfl, (fun x hx => nomatch hx), fun w rest g a3 a4 a5 hw L => compL_nil (stays_w hw)⟩
  | cons x xs ih =>
    intro β cs hc hl ho
    simp only [List.length_cons] at hl
    obtain ⟨i, β1, hi, e1⟩ := take_nat F k β cs.length (by omega) (by omega)
    obtain ⟨ls, β2, cs', l1, l2, l3⟩ := ih β1 (cs.eraseIdx i) (by rw [List.length_eraseIdx, if_pos hi]; omega) (by rw [List.length_eraseIdx, if_pos hi]; omega) (fun x hx => ho x (List.mem_of_mem_eraseIdx hx))
    refine ⟨cs[i] :: ls, β2, cs', by simp [l1], fun x hx => ?_, fun w rest g a3 a4 a5 hw L => ?_⟩
    · rcases List.mem_cons.mp hx with rfl | hx
      · exact ho _ (List.getElem_mem hi)
      · exact l2 x hx
    · refine compL_cons (stays_w hw) ?_ (l3 w rest g a3 a4 a5 hw L)
      have hx : L2.ixN cs.length (i : Int) = some i := ixN_nat hi
      simp [c_law_booke, e1, hx, hi, eraseIdx_map, dN, (by omega : cs.length ≤ 100000)]
theorem rules_turns (F k : Nat) {L : Tx} (hL : okL L) {S : List Nat} (hS : okSt S) : ∀ (xs : List D) (β : Bx), ∃ (rs : List Ru) (β' : Bx), rs.length = xs.length ∧ (∀ r ∈ rs, okR r) ∧
      ∀ (w : Wk) rest i a2 a4 a5, w.l = none → rest[i]? = some (.lst (S.map dN)) → compL w (turnC (pr.cl F (k + 10)) (.name 6) [6] .none c_law_book2e [some (.loc 0), some (.str L), a2, some (.loc (i + 2)), a4, a5, none]) xs (bx β rest) = .ok (rs.map dR) (bx β' rest) := by
  intro xs
  induction xs with
  | nil => exact fun β => ⟨[], β, rfl, (fun x hx => nomatch hx), fun w rest i a2 a4 a5 hw _ => compL_nil (stays_w hw)⟩
  | cons x xs ih =>
    intro β
    obtain ⟨r, β1, okr, e1⟩ := rule_spec F k hL hS β
    obtain ⟨rs, β2, l1, l2, l3⟩ := ih β1
    refine ⟨r :: rs, β2, by simp [l1], fun x hx => ?_, fun w rest i a2 a4 a5 hw hi => compL_cons (stays_w hw) ?_ (l3 w rest i a2 a4 a5 hw hi)⟩
    · rcases List.mem_cons.mp hx with rfl | hx
      · exact okr
      · exact l2 x hx
    · simp [c_law_book2e, e1 rest i hi]
def lastR (s a : Nat) : Ru := ⟨s, .no, .any, .node a []⟩
theorem lastR_ok {s a : Nat} (hs : s ≤ 5) (ha : 97 ≤ a ∧ a ≤ 102) : okR (lastR s a) :=
  ⟨hs, trivial, trivial, by simp [lastR, htP], by simp [lastR, szP], ⟨ha, by simp, trivial⟩, by simp [lastR, htB, htBs], by simp [lastR, szB, szBs]⟩
theorem last_turns (F k : Nat) {L : Tx} (hL : okL L) {S : List Nat} (hS : okSt S) : ∀ (ys : List Nat) (β : Bx) (rs : List Ru), (∀ y ∈ ys, y ≤ 5) → rs.length + ys.length ≤ 16 → ∃ (rs' : List Ru) (β' : Bx), rs'.length ≤ ys.length ∧ (∀ r ∈ rs', okR r) ∧
      ∀ (rest : Sto) c0 c1 c2 c3 c5 a2 v5, ∃ v', loopF ⟨S.map dN, some (rest.length + 6, .lst (S.map dN))⟩ (.name 5) (evSs (pr.cl F (k + 1)) F l_law_bookb) (ys.map dN) [some (.loc 0), some (.str L), a2, some (.loc (rest.length + 6)), some (.loc (rest.length + 8)), v5, none] (bx β (rest ++ [c0, c1, c2, c3, .lst (S.map dN), c5, .lst (rs.map dR)])) =
        .ok .nx [some (.loc 0), some (.str L), a2, some (.loc (rest.length + 6)), some (.loc (rest.length + 8)), v', none] (bx β' (rest ++ [c0, c1, c2, c3, .lst (S.map dN), c5, .lst ((rs ++ rs').map dR)])) := by
  have hLl : L.length ≤ 100000 := by have := hL.few; omega
  intro ys
  induction ys with
  | nil => exact fun β rs _ _ => ⟨[], β, by simp, (fun x hx => nomatch hx), fun rest c0 c1 c2 c3 c5 a2 v5 => ⟨v5, by rw [List.append_nil]; exact loop_nil (by simp [Wk.stays])⟩⟩
  | cons y ys ih =>
    intro β rs hy hl
    simp only [List.length_cons] at hl
    obtain ⟨q, β1, hq, e1⟩ := take_nat F k β 4 (by decide) (by decide)
    have e1 : ∀ rest, pr.call F (k + 1) f_law_take [.loc 0, .int 4] (bx β rest) = _ := e1
    have hy5 := hy y List.mem_cons_self
    by_cases c : 0 < q
    · obtain ⟨a, ra, β2, ha, _, hat, e2⟩ := take_letter F k β1 hL
      obtain ⟨rs', β3, l1, l2, l3⟩ := ih β2 (rs ++ [lastR y a]) (fun z hz => hy z (List.mem_cons_of_mem _ hz)) (by simp; omega)
      refine ⟨lastR y a :: rs', β3, by simp; omega, fun x hx => ?_, fun rest c0 c1 c2 c3 c5 a2 v5 => ?_⟩
      · rcases List.mem_cons.mp hx with rfl | hx
        · exact lastR_ok hy5 ha
        · exact l2 x hx
      · obtain ⟨v', e3⟩ := l3 rest c0 c1 c2 c3 c5 a2 (some (dN y))
        refine ⟨v', ?_⟩
        rw [show rs ++ lastR y a :: rs' = rs ++ [lastR y a] ++ rs' by simp, ← e3]
        refine loop_cons (by simp [Wk.stays]) rfl ?_ rfl
        simp [l_law_bookb, e1, c, e2, hLl, hat, (by omega : rs.length < 100000), lastR, dR, dSp, dP, dB, dBs, dN]
    · obtain ⟨rs', β3, l1, l2, l3⟩ := ih β1 rs (fun z hz => hy z (List.mem_cons_of_mem _ hz)) (by omega)
      refine ⟨rs', β3, by simp; omega, l2, fun rest c0 c1 c2 c3 c5 a2 v5 => ?_⟩
      obtain ⟨v', e3⟩ := l3 rest c0 c1 c2 c3 c5 a2 (some (dN y))
      refine ⟨v', ?_⟩
      rw [← e3]
      refine loop_cons (by simp [Wk.stays]) rfl ?_ rfl
      simp [l_law_bookb, e1, c]
/-- a book -/
theorem book_spec (F k : Nat) {L : Tx} (hL : okL L) (β : Bx) : ∃ rs β', okBk rs ∧ ∀ rest, pr.call F (k + 11) f_law_book [.loc 0, .str L] (bx β rest) = .ok (.loc (rest.length + 2)) (bx β' (rest ++ [.lst (rs.map dR)])) := by
  obtain ⟨q, β1, hq, e1⟩ := take_nat F (k + 9) β 4 (by decide) (by decide)
  have e1 : ∀ rest, pr.call F (k + 10) f_law_take [.loc 0, .int 4] (bx β rest) = _ := e1
  obtain ⟨n, hn, hn6⟩ : ∃ n : Nat, L2.atI [D.int 0, D.int 1, D.int 2, D.int 5] (q : Int) = some (.int n) ∧ n ≤ 5 := by
    have : q = 0 ∨ q = 1 ∨ q = 2 ∨ q = 3 := by omega
    rcases this with rfl | rfl | rfl | rfl
    · exact ⟨0, atI_nat rfl, by decide⟩
    · exact ⟨1, atI_nat rfl, by decide⟩
    · exact ⟨2, atI_nat rfl, by decide⟩
    · exact ⟨5, atI_nat rfl, by decide⟩
  obtain ⟨ls, β2, cs', l1, l2, l3⟩ := states_turns F (k + 9) (rngW 0 n).xs β1 [1, 2, 3, 4, 5] (by simp) (by rw [rng_len]; simp; omega) (by intro x hx; simp at hx; omega)
  rw [rng_len] at l1
  have hS : okSt (0 :: ls) := ⟨by simp, by simp; omega, fun x hx => by
    rcases List.mem_cons.mp hx with rfl | hx
    · omega
    · exact l2 x hx⟩
  obtain ⟨q2, β3, hq2, e2⟩ := take_nat F (k + 9) β2 2 (by decide) (by decide)
  have e2 : ∀ rest, pr.call F (k + 10) f_law_take [.loc 0, .int 2] (bx β2 rest) = _ := e2
  obtain ⟨m0, hm0, hm1, hm11⟩ : ∃ m0 : Nat, L2.atI [D.int 5, D.int 11] (q2 : Int) = some (.int m0) ∧ 1 ≤ m0 ∧ m0 ≤ 11 := by
    have : q2 = 0 ∨ q2 = 1 := by omega
    rcases this with rfl | rfl
    · exact ⟨5, atI_nat rfl, by decide, by decide⟩
    · exact ⟨11, atI_nat rfl, by decide, by decide⟩
  obtain ⟨m, β4, hm, e3⟩ := take_nat F (k + 9) β3 m0 (by omega) (by omega)
  obtain ⟨rs, β5, r1, r2, r3⟩ := rules_turns F k hL hS (rngW 0 m).xs β4
  rw [rng_len] at r1
  obtain ⟨rs', β6, t1, t2, t3⟩ := last_turns F (k + 9) hL hS (0 :: ls) β5 rs hS.ok (by simp; omega)
  simp only [List.length_cons] at t1
  have okb : okBk (rs ++ rs') := ⟨by simp; omega, fun r hr => by
    rcases List.mem_append.mp hr with hr | hr
    · exact r2 r hr
    · exact t2 r hr⟩
  refine ⟨rs ++ rs', β6, okb, fun rest => ?_⟩
  have hin : iLim (n : Int) := by unfold iLim; omega
  have him : iLim (m : Int) := by unfold iLim; omega
  have hc1 := comp_ok (C := pr.cl F (k + 10)) (e := c_law_booke) (it := (.rng1 (.ix (.lst (.cons (.cst (.int 0)) (.cons (.cst (.int 1)) (.cons (.cst (.int 2)) (.cons (.cst (.int 5)) .nil))))) (.call f_law_take (.cons (.var 0) (.cons (.cst (.int 4)) .nil)))))) (st := bx β (rest ++ [.lst ([1, 2, 3, 4, 5].map dN), .lst [.int 0]])) (by simp [e1, hn, hin]) (l3 (rngW 0 n) rest [.lst [.int 0], .lst [.int 0, .int 1, .int 2, .int 5]] none none none rfl L) (by rw [List.length_map]; show _ ≤ 100000; omega)
  have hc1' : ev (pr.cl F (k + 10)) c_law_book [some (.loc 0), some (.str L), some (.loc (rest.length + 2)), none, none, none, none] (bx β (rest ++ [.lst [.int 1, .int 2, .int 3, .int 4, .int 5], .lst [.int 0]])) = _ := hc1
  have hc2 := comp_ok (C := pr.cl F (k + 10)) (e := c_law_book2e) (it := (.rng1 (.call f_law_take (.cons (.var 0) (.cons (.ix (.lst (.cons (.cst (.int 5)) (.cons (.cst (.int 11)) .nil))) (.call f_law_take (.cons (.var 0) (.cons (.cst (.int 2)) .nil)))) .nil))))) (st := bx β2 (rest ++ [.lst (cs'.map dN), .lst [.int 0], .lst [.int 0, .int 1, .int 2, .int 5], .lst (ls.map dN), .lst ((0 :: ls).map dN)])) (by simp [e2, hm0, e3, him]) (r3 (rngW 0 m) (rest ++ [.lst (cs'.map dN), .lst [.int 0], .lst [.int 0, .int 1, .int 2, .int 5], .lst (ls.map dN), .lst ((0 :: ls).map dN), .lst [.int 5, .int 11]]) (rest.length + 4) (some (.loc (rest.length + 2))) none none rfl (by simp)) (by rw [List.length_map]; show _ ≤ 100000; omega)
  have hc2' : ev (pr.cl F (k + 10)) c_law_book2 [some (.loc 0), some (.str L), some (.loc (rest.length + 2)), some (.loc (rest.length + 6)), none, none, none] (bx β2 (rest ++ [.lst (cs'.map dN), .lst [.int 0], .lst [.int 0, .int 1, .int 2, .int 5], .lst (ls.map dN), .lst ((0 :: ls).map dN)])) = _ := hc2
  obtain ⟨v', hc3⟩ := t3 rest (.lst (cs'.map dN)) (.lst [.int 0]) (.lst [.int 0, .int 1, .int 2, .int 5]) (.lst (ls.map dN)) (.lst [.int 5, .int 11]) (some (.loc (rest.length + 2))) none
  have hr : (rngW 1 5).xs = [.int 1, .int 2, .int 3, .int 4, .int 5] := by decide
  have hS1 : (0 :: ls).map dN = .int 0 :: ls.map dN := rfl
  rw [hS1] at hc2' hc3
  rw [u_law_book]
  simp [b_law_book, hr, hc1', l1, (by omega : 1 + n ≤ 100000), Nat.add_assoc]
  rw [hc2']
  simp [l_law_book, Nat.add_assoc]
  rw [hc3]
  simp
  have := fin_bxL (β := β) (γ := β6) (r := rest) (g := [.lst (cs'.map dN), .lst [.int 0], .lst [.int 0, .int 1, .int 2, .int 5], .lst (ls.map dN), .lst (dN 0 :: ls.map dN), .lst [.int 5, .int 11], .lst (rs.map dR ++ rs'.map dR)]) (j := 6) rfl (by
    show locsDs (rs.map dR ++ rs'.map dR) = []
    rw [← List.map_append]
    exact pls_locs okb.pl)
  exact this
end Law
namespace Law
open Z
/-! ### good books are let by -/
theorem mem_al {st : Sto} {p : Pt} (ok : okP p) (h : htP p ≤ 20) : memD st (dP p) (.tup [g_ANY, g_LEAF]) = some (match p with | .node _ _ => false | _ => true) := by
  have h1 := dP_dep p
  show memS st (dP p) [g_ANY, g_LEAF] = _
  rw [memS_pl (dP_pl p ok) (by decide) (by omega) (by decide)]
  cases p <;> rw [dP] <;> simp
theorem ints_of {α : Type} (f : α → Nat) : ∀ l : List α, intsD (l.map fun t => D.int (f t)) = some (l.map fun t => (f t : Int))
  | [] => rfl
  | x :: xs => by rw [List.map_cons, List.map_cons, intsD, ints_of f xs]
theorem pattern_parts_spec (F : Nat) : ∀ (k : Nat) (p : Pt) (deep : Nat) (st : Sto), htP p ≤ deep → deep ≤ k → deep ≤ 20 → okP p → pr.call F (k + 1) f_pattern_parts [dP p, .int deep] st = .ok (.int (szP p)) st := by
  intro k
  induction k with
  | zero => intro p deep st h1 h2; have := htP_pos p; omega
  | succ k ih =>
    intro p deep st h1 h2 h3 ok
    have hp := htP_pos p
    have hm := mem_al (st := st) ok (by omega)
    rw [u_pattern_parts]
    have hd : ¬ ((deep : Int) < 1) := by omega
    cases p with
    | any =>
      rw [dP] at hm ⊢
      simp [b_pattern_parts, hd, hm, szP]
    | leaf =>
      rw [dP] at hm ⊢
      simp [b_pattern_parts, hd, hm, szP]
    | node c ks =>
      rw [okP] at ok
      rw [htP] at h1
      have hl := is_label_spec F k (c := c) (st := st) ok.1
      have hlen : (dPs ks).length = ks.length := by rw [dPs_map]; simp
      have hk3 : ¬ (3 : Int) < (ks.length : Int) := by omega
      have hc : ev (pr.cl F (k + 1)) c_pattern_parts [some (dP (.node c ks)), some (.int deep), none] st = .ok (.loc st.length) (st ++ [.lst (ks.map fun t => D.int (szP t))]) := by
        refine comp_map (u := dP) (w := ⟨ks.map dP, none⟩) (s1 := st) ?_ rfl rfl (by show _ ≤ 100000; omega) fun t ht => ?_
        · simp [dP, dPs_map]
        · have := ih t (deep - 1) st (by have := htPs_le ht; omega) (by omega) (by omega) (okPs_mem ok.2.2 ht)
          rw [show (((deep - 1 : Nat)) : Int) = (deep : Int) - 1 by omega] at this
          simp [c_pattern_partse, this]
      rw [dP] at hm hc ⊢
      simp [b_pattern_parts, hd, hm, hl, hlen, hk3, hc, ints_of, szPs_sum, szP]
/-- the turns of has_path -/
theorem path_loop (F k : Nat) {st : Sto} {pd : D} {w : Wk} (hw : w.l = none) : ∀ (r : List Nat) (P q : Pt) (v : Option D), okP P → htP P ≤ 20 → subP P r = some q →
    ∃ v' P', loopF w (.name 2) (evSs (pr.cl F (k + 1)) F l_has_pathb) (r.map fun (i : Nat) => D.int i) [some (dP P), some pd, v] st = .ok .nx [some P', some pd, v'] st := by
  intro r
  induction r with
  | nil => exact fun P q v _ _ _ => ⟨v, dP P, loop_nil (stays_w hw)⟩
  | cons i r ih =>
    intro P q v ok hh hs
    cases P with
    | any => simp [subP] at hs
    | leaf => simp [subP] at hs
    | node c ks =>
      rw [subP] at hs
      cases hq : ks[i]? with
      | none => rw [hq] at hs; cases hs
      | some K =>
        rw [hq] at hs
        have hs : subP K r = some q := hs
        have hm := mem_al (st := st) ok (by omega)
        rw [okP] at ok
        rw [htP] at hh
        have hmem : K ∈ ks := List.mem_of_getElem? hq
        obtain ⟨hi, _⟩ := List.getElem?_eq_some_iff.mp hq
        obtain ⟨v', P', e⟩ := ih K q (some (.int i)) (okPs_mem ok.2.2 hmem) (by have := htPs_le hmem; omega) hs
        refine ⟨v', P', loop_cons (stays_w hw) rfl ?_ e⟩
        have hlen : (dPs ks).length = ks.length := by rw [dPs_map]; simp
        have hn := is_number_spec F k (n := (i : Int)) (lo := 0) (hi := (ks.length : Int) - 1) (st := st) (by omega) (by omega)
        have hat : L2.atI (dPs ks) (i : Int) = some (dP K) := atI_nat (by rw [dPs_map, List.getElem?_map, hq]; rfl)
        rw [dP] at hm ⊢
        simp [l_has_pathb, hm, hlen, hn, hat]
theorem has_path_spec (F k : Nat) {st : Sto} {P q : Pt} {p : List Nat} (ok : okP P) (hh : htP P ≤ 20) (h1 : 1 ≤ p.length) (h2 : p.length ≤ 2) (hs : subP P p = some q) : pr.call F (k + 2) f_has_path [dP P, dPa p] st = .ok (.bl true) st := by
  obtain ⟨v', P', e⟩ := path_loop F k (st := st) (pd := dPa p) (w := ⟨p.map fun (i : Nat) => D.int i, none⟩) rfl p P q none ok hh hs
  have h1' : (1 : Int) ≤ (p.length : Int) := by omega
  have h2' : (p.length : Int) ≤ 2 := by omega
  rw [u_has_path]
  simp only [dPa] at e ⊢
  simp [b_has_path, l_has_path, h1', h2', e]
theorem build_parts_spec (F : Nat) {P : Pt} (okp : okP P) (hp : htP P ≤ 20) : ∀ (k : Nat) (b : Bd) (deep : Nat) (st : Sto), htB b ≤ deep → deep ≤ k → deep ≤ 20 → okB P b → pr.call F (k + 2) f_build_parts [dB b, dP P, .int deep] st = .ok (.int (szB b)) st := by
  intro k
  induction k with
  | zero => intro b deep st h1 h2; have := htB_pos b; omega
  | succ k ih =>
    intro b deep st h1 h2 h3 ok
    have hb := htB_pos b
    rw [u_build_parts]
    have hd : ¬ ((deep : Int) < 1) := by omega
    cases b with
    | go s p =>
      rw [okB] at ok
      obtain ⟨o1, o2, o3, q, o4⟩ := ok
      have e1 := is_number_spec F (k + 1) (n := (s : Int)) (lo := 0) (hi := 5) (st := st) (by omega) (by omega)
      have e2 := has_path_spec F k (st := st) okp hp o2 o3 o4
      rw [dB]
      simp [b_build_parts, hd, szB, e1, e2]
    | node c ks =>
      rw [okB] at ok
      rw [htB] at h1
      have hl := is_label_spec F (k + 1) (c := c) (st := st) ok.1
      have hlen : (dBs ks).length = ks.length := by rw [dBs_map]; simp
      have hk3 : ¬ (3 : Int) < (ks.length : Int) := by omega
      have hc : ∀ v, ev (pr.cl F (k + 2)) c_build_parts [some (dB (.node c ks)), some (dP P), some (.int deep), v, none] st = .ok (.loc st.length) (st ++ [.lst (ks.map fun t => D.int (szB t))]) := fun v => by
        refine comp_map (u := dB) (w := ⟨ks.map dB, none⟩) (s1 := st) ?_ rfl rfl (by show _ ≤ 100000; omega) fun t ht => ?_
        · simp [dB, dBs_map]
        · have := ih t (deep - 1) st (by have := htBs_le ht; omega) (by omega) (by omega) (okBs_mem ok.2.2 ht)
          rw [show (((deep - 1 : Nat)) : Int) = (deep : Int) - 1 by omega] at this
          simp [c_build_partse, this]
      rw [dB] at hc ⊢
      simp [b_build_parts, hd, hl, hlen, hk3, hc, ints_of, szBs_sum, szB]
theorem is_spot_spec (F k : Nat) {s : Sp} {st : Sto} (h : okSp s) : pr.call F (k + 2) f_is_spot [dSp s] st = .ok (.bl true) st := by
  rw [u_is_spot]
  have hq : s ≠ .no → eqD st (dSp s) (.tup [.str [116, 111, 112]]) = some (decide (dSp s = .tup [.str [116, 111, 112]])) := fun hn => by
    have := eqG_pl (st := st) (a := dSp s) (b := .tup [.str [116, 111, 112]]) (dSp_pl s h) (by decide) (by have := dSp_dep s; omega)
    cases s <;> first | exact absurd rfl hn | exact this
  cases s with
  | no => simp [b_is_spot, dSp]
  | top =>
    have hq := hq (by simp)
    rw [dSp] at hq ⊢
    simp at hq
    simp [b_is_spot, hq]
  | under c =>
    have hq := hq (by simp)
    have h : 97 ≤ c ∧ c ≤ 102 := h
    have e := is_label_spec F k (c := c) (st := st) h
    rw [dSp] at hq ⊢
    simp at hq
    simp [b_is_spot, hq, e]
  | kid i =>
    have hq := hq (by simp)
    have h : i ≤ 2 := h
    have e := is_number_spec F k (n := (i : Int)) (lo := 0) (hi := 2) (st := st) (by omega) (by omega)
    rw [dSp] at hq ⊢
    simp at hq
    simp [b_is_spot, hq, e]
theorem is_rule_spec (F k : Nat) {r : Ru} {st : Sto} (h : okR r) : pr.call F (k + 7) f_is_rule [dR r] st = .ok (.bl true) st := by
  have e1 := is_number_spec F (k + 5) (n := (r.s : Int)) (lo := 0) (hi := 5) (st := st) (by omega) (by have := h.s; omega)
  have e2 := is_spot_spec F (k + 4) (st := st) h.sp
  have e3 : pr.call F (k + 6) f_pattern_parts [dP r.p, .int 3] st = .ok (.int (szP r.p)) st := pattern_parts_spec F (k + 5) r.p 3 st h.ph (by omega) (by omega) h.p
  have e4 : pr.call F (k + 6) f_build_parts [dB r.b, dP r.p, .int 4] st = .ok (.int (szB r.b)) st := build_parts_spec F h.p (by have := h.ph; omega) (k + 4) r.b 4 st h.bh (by omega) (by omega) h.b
  have h1 := h.pz
  have h2 := h.bz
  have h3 : ¬ (7 : Int) < (szP r.p : Int) := by omega
  have h4 : (szB r.b : Int) ≤ 12 := by omega
  rw [u_is_rule]
  simp [b_is_rule, dR, e1, e2, e3, e4, h3, h4]
theorem enumD_map {α : Type} (u : α → D) : ∀ (l : List α) (k : Nat), enumD k (l.map u) = (l.zipIdx k).map fun p => D.tup [.int (p.2 : Nat), u p.1]
  | [], k => rfl
  | x :: xs, k => by rw [List.map_cons, enumD, enumD_map u xs, List.zipIdx_cons, List.map_cons]
theorem need_book_spec (F k : Nat) {rs : List Ru} {n : Nat} {st : Sto} (hb : st[n]? = some (.lst (rs.map dR))) (h : okBk rs) : pr.call F (k + 8) f_need_book [.loc n] st = .ok .non st := by
  obtain ⟨ρ', st', e1, rfl, a, b, rfl⟩ := for_inv (w := ⟨enumD 0 (rs.map dR), some (n, .lst (rs.map dR))⟩) (tg := .tup [1, 2]) (b := evSs (pr.cl F (k + 7)) F l_need_bookb) (ρ := [some (.loc n), none, none]) (st := st) (rs.zipIdx 0) (fun p => D.tup [.int (p.2 : Nat), dR p.1])
    (fun _ ρ s => s = st ∧ ∃ a b, ρ = [some (.loc n), a, b]) (enumD_map dR rs 0) (fun i ρ s hp => by rw [hp.1]; simp [Wk.stays, hb])
    (by
      rintro i ⟨r, j⟩ ρ s ha ⟨e1, v1, v2, e2⟩
      subst e1 e2
      have hm := List.mem_of_getElem? ha
      have hr := (List.mem_zipIdx hm).2.2
      have hj := (List.mem_zipIdx hm).2.1
      have hfew := h.few
      have hmem : r ∈ rs := by rw [hr]; exact List.getElem_mem _
      have e := is_rule_spec F k (r := r) (st := s) (h.ok r hmem)
      have h16 : ¬ (16 : Int) ≤ (j : Int) := by omega
      refine ⟨[some (.loc n), some (.int (j : Nat)), some (dR r)], [some (.loc n), some (.int (j : Nat)), some (dR r)], s, rfl, .inl ?_, rfl, _, _, rfl⟩
      simp [l_need_bookb, h16, e]) ⟨rfl, none, none, rfl⟩
  rw [u_need_book]
  simp at e1
  simp [b_need_book, l_need_book, hb, Wk.enum, e1]
end Law
namespace Law
open Z
/-! ### patterns and builds in one: what is written of them -/
inductive U where
  | any | leaf | go (s : Nat) (p : List Nat) | node (c : Nat) (ks : List U)
mutual
def dU : U → D
  | .any => .tup [.str [97, 110, 121]]
  | .leaf => .tup [.str [108, 101, 97, 102]]
  | .go s p => .tup [.str [100, 111], .int s, dPa p]
  | .node c ks => .tup [.str [c], .tup (dUs ks)]
def dUs : List U → List D
  | [] => []
  | t :: ts => dU t :: dUs ts
end
mutual
def szU : U → Nat
  | .any => 1 | .leaf => 1 | .go _ _ => 1
  | .node _ ks => 1 + szUs ks
def szUs : List U → Nat
  | [] => 0
  | t :: ts => szU t + szUs ts
end
mutual
def htU : U → Nat
  | .any => 1 | .leaf => 1 | .go _ _ => 1
  | .node _ ks => 1 + htUs ks
def htUs : List U → Nat
  | [] => 0
  | t :: ts => max (htU t) (htUs ts)
end
mutual
/-- of a pattern (true), of a build (false) -/
def okU (b : Bool) : U → Prop
  | .any => b = true | .leaf => b = true
  | .go s p => b = false ∧ s ≤ 5 ∧ 1 ≤ p.length ∧ p.length ≤ 2 ∧ ∀ i ∈ p, i ≤ 2
  | .node c ks => (97 ≤ c ∧ c ≤ 102) ∧ okUs b ks
def okUs (b : Bool) : List U → Prop
  | [] => True
  | t :: ts => okU b t ∧ okUs b ts
end
def dig (i : Nat) : Tx := [48 + i]
mutual
def txU : U → Tx
  | .any => [63] | .leaf => [46]
  | .go s p => (48 + s) :: 58 :: joinT [46] (p.map dig)
  | .node c ks => if ks.isEmpty = true then [c] else c :: 40 :: (joinT [44] (txUs ks) ++ [41])
def txUs : List U → List Tx
  | [] => []
  | t :: ts => txU t :: txUs ts
end
theorem dUs_map : ∀ ts : List U, dUs ts = ts.map dU
  | [] => by rw [dUs]; rfl
  | t :: ts => by rw [dUs, dUs_map ts]; rfl
theorem txUs_map : ∀ ts : List U, txUs ts = ts.map txU
  | [] => by rw [txUs]; rfl
  | t :: ts => by rw [txUs, txUs_map ts]; rfl
theorem htUs_le {ts : List U} : ∀ {t : U}, t ∈ ts → htU t ≤ htUs ts := by
  induction ts with
  | nil => intro t h; cases h
  | cons x ts ih =>
    intro t h
    rw [htUs]
    rcases List.mem_cons.mp h with rfl | h
    · omega
    · have := ih h; omega
theorem szUs_mem {ts : List U} : ∀ {t : U}, t ∈ ts → szU t ≤ szUs ts := by
  induction ts with
  | nil => intro t h; cases h
  | cons x ts ih =>
    intro t h
    rw [szUs]
    rcases List.mem_cons.mp h with rfl | h
    · omega
    · have := ih h; omega
theorem okUs_mem {b : Bool} {ts : List U} : ∀ {t : U}, okUs b ts → t ∈ ts → okU b t := by
  induction ts with
  | nil => intro t _ h; cases h
  | cons x ts ih =>
    intro t ok h
    rw [okUs] at ok
    rcases List.mem_cons.mp h with rfl | h
    · exact ok.1
    · exact ih ok.2 h
theorem htU_pos (t : U) : 1 ≤ htU t := by cases t <;> rw [htU] <;> omega
theorem szU_pos (t : U) : 1 ≤ szU t := by cases t <;> rw [szU] <;> omega
mutual
theorem dU_pl : ∀ {b : Bool} (t : U), okU b t → plD (dU t) = true
  | _, .any, _ => by decide
  | _, .leaf, _ => by decide
  | _, .go s p, _ => by
    rw [dU, plD, plDs, plDs, plDs, dPa_pl]
    simp [plD, plDs, LIM]
  | b, .node c ks, h => by
    rw [okU] at h
    rw [dU, plD, plDs, plDs, plD, plD, dUs_pl ks h.2]
    simp [plDs, LIM]; omega
theorem dUs_pl : ∀ {b : Bool} (ts : List U), okUs b ts → plDs (dUs ts) = true
  | _, [], _ => by rw [dUs]; rfl
  | b, t :: ts, h => by
    rw [okUs] at h
    rw [dUs, plDs, dU_pl t h.1, dUs_pl ts h.2]; rfl
end
mutual
theorem dU_dep : ∀ t : U, depD (dU t) ≤ 2 * htU t + 1
  | .any => by simp [dU, depD, depDs, htU]
  | .leaf => by simp [dU, depD, depDs, htU]
  | .go s p => by have := dPa_dep p; simp [dU, depD, depDs, htU]; omega
  | .node c ks => by have := dUs_dep ks; simp [dU, depD, depDs, htU]; omega
theorem dUs_dep : ∀ ts : List U, depDs (dUs ts) ≤ 2 * htUs ts + 1
  | [] => by simp [dUs, depDs]
  | t :: ts => by have := dU_dep t; have := dUs_dep ts; simp [dUs, depDs, htUs]; omega
end
theorem dU_cl {b : Bool} {t : U} (h : okU b t) (n : Nat) : clD n (dU t) = true := pl_cl (dU_pl t h)
theorem jn_len (c : Nat) (ts : List Tx) : (joinT [c] ts).length ≤ (ts.map List.length).sum + ts.length := by
  induction ts with
  | nil => simp [joinT]
  | cons x r ih => cases r with
    | nil => simp [joinT]
    | cons y r => simp only [joinT, List.length_append, List.map_cons, List.sum_cons, List.length_cons, List.length_nil] at ih ⊢; omega
theorem dig_sum (p : List Nat) : ((p.map dig).map List.length).sum = p.length := by
  induction p with
  | nil => rfl
  | cons a p ih => simp only [List.map_cons, List.sum_cons, List.length_cons, ih, dig, List.length_nil]; omega
mutual
theorem txU_len : ∀ {b : Bool} (t : U), okU b t → (txU t).length + 2 ≤ 8 * szU t
  | _, .any, _ => by simp [txU, szU]
  | _, .leaf, _ => by simp [txU, szU]
  | _, .go s p, h => by
    rw [okU] at h
    have := jn_len 46 (p.map dig)
    rw [dig_sum, List.length_map] at this
    simp only [txU, szU, List.length_cons]; omega
  | _, .node c ks, h => by
    rw [okU] at h
    rw [txU, szU]
    have h1 := txUs_len ks h.2
    have h2 := jn_len 44 (txUs ks)
    have h3 : (txUs ks).length = ks.length := by rw [txUs_map, List.length_map]
    split
    · simp; omega
    · simp only [List.length_cons, List.length_append, List.length_nil]; omega
theorem txUs_len : ∀ {b : Bool} (ts : List U), okUs b ts → ((txUs ts).map List.length).sum + 2 * ts.length ≤ 8 * szUs ts
  | _, [], _ => by simp [txUs, szUs]
  | _, t :: ts, h => by
    rw [okUs] at h
    have h1 := txU_len t h.1
    have h2 := txUs_len ts h.2
    simp only [txUs, szUs, List.map_cons, List.sum_cons, List.length_cons]; omega
end
/-! ### a pattern, a build as such -/
mutual
def uP : Pt → U
  | .any => .any | .leaf => .leaf
  | .node c ks => .node c (uPs ks)
def uPs : List Pt → List U
  | [] => []
  | t :: ts => uP t :: uPs ts
end
mutual
def uB : Bd → U
  | .go s p => .go s p
  | .node c ks => .node c (uBs ks)
def uBs : List Bd → List U
  | [] => []
  | t :: ts => uB t :: uBs ts
end
mutual
theorem dU_P : ∀ p : Pt, dU (uP p) = dP p
  | .any => by rw [uP, dU, dP]
  | .leaf => by rw [uP, dU, dP]
  | .node c ks => by rw [uP, dU, dP, dUs_P ks]
theorem dUs_P : ∀ p : List Pt, dUs (uPs p) = dPs p
  | [] => by rw [uPs, dUs, dPs]
  | t :: ts => by rw [uPs, dUs, dPs, dU_P t, dUs_P ts]
end
mutual
theorem szU_P : ∀ p : Pt, szU (uP p) = szP p
  | .any => by rw [uP, szU, szP]
  | .leaf => by rw [uP, szU, szP]
  | .node c ks => by rw [uP, szU, szP, szUs_P ks]
theorem szUs_P : ∀ p : List Pt, szUs (uPs p) = szPs p
  | [] => by rw [uPs, szUs, szPs]
  | t :: ts => by rw [uPs, szUs, szPs, szU_P t, szUs_P ts]
end
mutual
theorem htU_P : ∀ p : Pt, htU (uP p) = htP p
  | .any => by rw [uP, htU, htP]
  | .leaf => by rw [uP, htU, htP]
  | .node c ks => by rw [uP, htU, htP, htUs_P ks]
theorem htUs_P : ∀ p : List Pt, htUs (uPs p) = htPs p
  | [] => by rw [uPs, htUs, htPs]
  | t :: ts => by rw [uPs, htUs, htPs, htU_P t, htUs_P ts]
end
mutual
theorem okU_P : ∀ p : Pt, okP p → okU true (uP p)
  | .any, _ => by rw [uP, okU]
  | .leaf, _ => by rw [uP, okU]
  | .node c ks, h => by rw [okP] at h; rw [uP, okU]; exact ⟨h.1, okUs_P ks h.2.2⟩
theorem okUs_P : ∀ p : List Pt, okPs p → okUs true (uPs p)
  | [], _ => by rw [uPs, okUs]; trivial
  | t :: ts, h => by rw [okPs] at h; rw [uPs, okUs]; exact ⟨okU_P t h.1, okUs_P ts h.2⟩
end
mutual
theorem dU_B : ∀ p : Bd, dU (uB p) = dB p
  | .go s p => by rw [uB, dU, dB]
  | .node c ks => by rw [uB, dU, dB, dUs_B ks]
theorem dUs_B : ∀ p : List Bd, dUs (uBs p) = dBs p
  | [] => by rw [uBs, dUs, dBs]
  | t :: ts => by rw [uBs, dUs, dBs, dU_B t, dUs_B ts]
end
mutual
theorem szU_B : ∀ p : Bd, szU (uB p) = szB p
  | .go s p => by rw [uB, szU, szB]
  | .node c ks => by rw [uB, szU, szB, szUs_B ks]
theorem szUs_B : ∀ p : List Bd, szUs (uBs p) = szBs p
  | [] => by rw [uBs, szUs, szBs]
  | t :: ts => by rw [uBs, szUs, szBs, szU_B t, szUs_B ts]
end
mutual
theorem htU_B : ∀ p : Bd, htU (uB p) = htB p
  | .go s p => by rw [uB, htU, htB]
  | .node c ks => by rw [uB, htU, htB, htUs_B ks]
theorem htUs_B : ∀ p : List Bd, htUs (uBs p) = htBs p
  | [] => by rw [uBs, htUs, htBs]
  | t :: ts => by rw [uBs, htUs, htBs, htU_B t, htUs_B ts]
end
theorem sub_small : ∀ {p : List Nat} {P q : Pt}, okP P → subP P p = some q → ∀ i ∈ p, i ≤ 2
  | [], P, q, _, _, i, hi => by cases hi
  | a :: p, P, q, ok, h, i, hi => by
    cases P with
    | any => simp [subP] at h
    | leaf => simp [subP] at h
    | node c ks =>
      rw [okP] at ok
      rw [subP] at h
      split at h
      · rename_i q' e
        have hl := (List.getElem?_eq_some_iff.mp e).1
        rcases List.mem_cons.mp hi with rfl | hi
        · omega
        · exact sub_small (okPs_mem ok.2.2 (List.mem_of_getElem? e)) h i hi
      · cases h
mutual
theorem okU_B {P : Pt} (okp : okP P) : ∀ p : Bd, okB P p → okU false (uB p)
  | .go s p, h => by
    rw [okB] at h
    obtain ⟨h1, h2, h3, q, h4⟩ := h
    rw [uB, okU]
    exact ⟨rfl, h1, h2, h3, sub_small okp h4⟩
  | .node c ks, h => by rw [okB] at h; rw [uB, okU]; exact ⟨h.1, okUs_B okp ks h.2.2⟩
theorem okUs_B {P : Pt} (okp : okP P) : ∀ p : List Bd, okBs P p → okUs false (uBs p)
  | [], _ => by rw [uBs, okUs]; trivial
  | t :: ts, h => by rw [okBs] at h; rw [uBs, okUs]; exact ⟨okU_B okp t h.1, okUs_B okp ts h.2⟩
end
/-! ### spots, rows -/
def txS : Sp → Tx
  | .no => [45]
  | .top => [116, 111, 112]
  | .under c => [117, 110, 100, 101, 114, 58, c]
  | .kid i => [107, 105, 100, 58, 48 + i]
def rowT (r : Ru) : Tx := joinT [32] [dig r.s, txS r.sp, txU (uP r.p), txU (uB r.b)]
def bookT (rs : List Ru) : Tx := joinT [10] (rs.map rowT)
theorem txS_len {s : Sp} : (txS s).length ≤ 7 := by cases s <;> simp [txS]
theorem rowT_len {r : Ru} (h : okR r) : (rowT r).length ≤ 200 := by
  have h1 := txU_len _ (okU_P _ h.p)
  have h2 := txU_len _ (okU_B h.p _ h.b)
  have h3 := txS_len (s := r.sp)
  have := h.pz; have := h.bz
  rw [szU_P] at h1; rw [szU_B] at h2
  simp only [rowT, joinT, List.length_append, List.length_cons, List.length_nil, dig]
  omega
end Law
namespace Law
open Z
theorem dUs_len (ks : List U) : (dUs ks).length = ks.length := by rw [dUs_map, List.length_map]
theorem isE_dUs (ks : List U) : (dUs ks).isEmpty = ks.isEmpty := by cases ks <;> simp [dUs]
theorem kids_sumU {b : Bool} {ks : List U} (h : okUs b ks) (hs : szUs ks ≤ 100) : ((txUs ks).map List.length).sum + (txUs ks).length ≤ LIM := by
  have h1 := txUs_len ks h
  have h3 : (txUs ks).length = ks.length := by rw [txUs_map, List.length_map]
  show _ ≤ 100000
  omega
theorem chars_pl (p : List Nat) (h : p.length ≤ 2) : ((p.map dig).map List.length).sum + (p.map dig).length ≤ LIM := by
  rw [dig_sum, List.length_map]; show _ ≤ 100000; omega
theorem lab_ne {c : Nat} (h : 97 ≤ c ∧ c ≤ 102) : ¬ ([c] : Tx) = [100, 111] := by simp
/-- the digits of a path -/
theorem path_dig (p : List Nat) (f : Nat → D) (hf : ∀ i ∈ p, f i = .str (dig i)) : p.map f = (p.map dig).map D.str := by
  rw [List.map_map]; exact List.map_congr_left hf
theorem law_text_spec (F : Nat) {b : Bool} : ∀ (k : Nat) (u : U) (st : Sto), htU u ≤ k → szU u ≤ 100 → okU b u → pr.call F (k + 1) f_law_text [dU u] st = .ok (.str (txU u)) st := by
  intro k
  induction k with
  | zero => intro u st h; have := htU_pos u; omega
  | succ k ih =>
    intro u st hh hs ok
    rw [u_law_text]
    cases u with
    | any => simp [b_law_text, dU, txU]
    | leaf => simp [b_law_text, dU, txU]
    | go s p =>
      rw [okU] at ok
      have hc : ev (pr.cl F (k + 1)) c_law_text [some (dU (.go s p)), none, none] st = .ok (.loc st.length) (st ++ [.lst ((p.map dig).map D.str)]) := by
        rw [List.map_map]
        refine comp_map (u := fun (i : Nat) => D.int i) (w := ⟨p.map fun (i : Nat) => D.int i, none⟩) (s1 := st) ?_ rfl rfl (by show _ ≤ 100000; omega) fun i hi => ?_
        · simp [dU, dPa]
        · have := ok.2.2.2.2 i hi
          simp [c_law_texte, dig, (by omega : (i : Int) < 10)]
      have hj : ((p.map dig).map List.length).sum + (p.map dig).length ≤ 100000 := chars_pl p ok.2.2.2.1
      have hz : (joinT [46] (p.map dig)).length ≤ 10 := by have := jn_len 46 (p.map dig); rw [dig_sum, List.length_map] at this; omega
      have h10 : (s : Int) < 10 := by omega
      rw [dU] at hc ⊢
      rw [txU]
      generalize p.map dig = ts at hc hj hz ⊢
      have hz2 : 2 + (joinT [46] ts).length ≤ 100000 := by omega
      simp [b_law_text, hc, hj, h10, hz2, strsD_map]
    | node c ks =>
      rw [okU] at ok
      rw [szU] at hs; rw [htU] at hh
      by_cases he : ks = []
      · subst he
        simp [b_law_text, dU, dUs, txU, txUs, lab_ne ok.1]
      · have hc : ev (pr.cl F (k + 1)) c_law_text2 [some (dU (.node c ks)), none, none] st = .ok (.loc st.length) (st ++ [.lst ((txUs ks).map D.str)]) := by
          rw [txUs_map, List.map_map]
          refine comp_map (u := dU) (w := ⟨ks.map dU, none⟩) (s1 := st) ?_ rfl rfl ?_ fun u hu => ?_
          · simp [dU, dUs_map]
          · have := txUs_len ks ok.2; show _ ≤ 100000; omega
          · have := ih u st (by have := htUs_le hu; omega) (by have := szUs_mem hu; omega) (okUs_mem ok.2 hu)
            simp [c_law_text2e, this]
        have hj : ((txUs ks).map List.length).sum + (txUs ks).length ≤ 100000 := kids_sumU ok.2 (by omega)
        have hz : (joinT [44] (txUs ks)).length ≤ 900 := by have := jn_len 44 (txUs ks); have := txUs_len ks ok.2; have : (txUs ks).length = ks.length := by rw [txUs_map, List.length_map]
                                                            omega
        have hE : (dUs ks).isEmpty = false := by rw [isE_dUs]; simpa using he
        have hE' : ks.isEmpty = false := by simpa using he
        rw [dU] at hc ⊢
        rw [txU, hE']
        generalize txUs ks = ts at hc hj hz ⊢
        have hz2 : 2 + (joinT [44] ts).length ≤ 100000 := by omega
        have hz3 : (joinT [44] ts).length ≤ 99997 := by omega
        simp [b_law_text, hc, hj, hE, hz2, hz3, strsD_map, lab_ne ok.1]
def isAL : U → Bool
  | .any => true | .leaf => true | _ => false
def isAny : U → Bool
  | .any => true | _ => false
theorem memU {st : Sto} {b : Bool} {u : U} (ok : okU b u) (h : htU u ≤ 20) : memD st (dU u) (.tup [g_ANY, g_LEAF]) = some (isAL u) := by
  have h1 := dU_dep u
  show memS st (dU u) [g_ANY, g_LEAF] = _
  rw [memS_pl (dU_pl u ok) (by decide) (by omega) (by decide)]
  cases u <;> rw [dU] <;> simp [isAL]
theorem eqAny {st : Sto} {b : Bool} {u : U} (ok : okU b u) (h : htU u ≤ 20) : eqD st (dU u) g_ANY = some (isAny u) := by
  have h1 := dU_dep u
  have e : eqD st (dU u) g_ANY = eqG st (dU u) g_ANY := by cases u <;> rw [dU] <;> rfl
  rw [e, eqG_pl (dU_pl u ok) (by decide) (by omega)]
  cases u <;> rw [dU] <;> simp [isAny]
theorem join_ne {x : Tx} {r : List Tx} {c : Nat} (h : x ≠ []) : joinT [c] (x :: r) ≠ [] := by
  cases r with
  | nil => exact h
  | cons y r => simp [joinT, h]
theorem txU_ne (t : U) : txU t ≠ [] := by cases t <;> rw [txU] <;> (try split) <;> simp
theorem part_text_spec (F : Nat) {b : Bool} : ∀ (k : Nat) (u : U) (st : Sto), htU u ≤ k → htU u ≤ 20 → szU u ≤ 100 → okU b u → pr.call F (k + 1) f_part_text [dU u] st = .ok (.str (txU u)) st := by
  intro k
  induction k with
  | zero => intro u st h; have := htU_pos u; omega
  | succ k ih =>
    intro u st hh hk hs ok
    rw [u_part_text]
    have hm := memU (st := st) ok (by omega)
    have hq := eqAny (st := st) ok (by omega)
    cases u with
    | any =>
      rw [dU] at hm hq ⊢
      simp [b_part_text, isAL, isAny, hm, hq, txU]
    | leaf =>
      rw [dU] at hm hq ⊢
      simp [b_part_text, isAL, isAny, hm, hq, txU]
    | go s p =>
      rw [okU] at ok
      have hc : ev (pr.cl F (k + 1)) c_part_text [some (dU (.go s p)), none, none, none] st = .ok (.loc st.length) (st ++ [.lst ((p.map dig).map D.str)]) := by
        rw [List.map_map]
        refine comp_map (u := fun (i : Nat) => D.int i) (w := ⟨p.map fun (i : Nat) => D.int i, none⟩) (s1 := st) ?_ rfl rfl (by show _ ≤ 100000; omega) fun i hi => ?_
        · simp [dU, dPa]
        · have := ok.2.2.2.2 i hi
          simp [c_part_texte, dig, (by omega : (i : Int) < 10)]
      have hj : ((p.map dig).map List.length).sum + (p.map dig).length ≤ 100000 := chars_pl p ok.2.2.2.1
      have hz : (joinT [46] (p.map dig)).length ≤ 10 := by have := jn_len 46 (p.map dig); rw [dig_sum, List.length_map] at this; omega
      have h10 : (s : Int) < 10 := by omega
      rw [dU] at hc hm ⊢
      rw [txU]
      generalize p.map dig = ts at hc hj hz ⊢
      have hz2 : 2 + (joinT [46] ts).length ≤ 100000 := by omega
      simp [b_part_text, isAL, isAny, hm, hc, hj, h10, hz2, strsD_map]
    | node c ks =>
      rw [okU] at ok
      rw [szU] at hs; rw [htU] at hh hk
      have hc : ev (pr.cl F (k + 1)) c_part_text2 [some (dU (.node c ks)), none, none, none] st = .ok (.loc st.length) (st ++ [.lst ((txUs ks).map D.str)]) := by
        rw [txUs_map, List.map_map]
        refine comp_map (u := dU) (w := ⟨ks.map dU, none⟩) (s1 := st) ?_ rfl rfl ?_ fun u hu => ?_
        · simp [dU, dUs_map]
        · have := txUs_len ks ok.2; show _ ≤ 100000; omega
        · have := ih u st (by have := htUs_le hu; omega) (by have := htUs_le hu; omega) (by have := szUs_mem hu; omega) (okUs_mem ok.2 hu)
          simp [c_part_text2e, this]
      have hj : ((txUs ks).map List.length).sum + (txUs ks).length ≤ 100000 := kids_sumU ok.2 (by omega)
      have hz : (joinT [44] (txUs ks)).length ≤ 900 := by have := jn_len 44 (txUs ks); have := txUs_len ks ok.2; have : (txUs ks).length = ks.length := by rw [txUs_map, List.length_map]
                                                          omega
      have hE : (joinT [44] (txUs ks) = []) = (ks = []) := by
        cases ks with
        | nil => simp [txUs, joinT]
        | cons x r => rw [txUs]; simp [join_ne (txU_ne x)]
      rw [dU] at hc hm ⊢
      rw [txU]
      generalize txUs ks = ts at hc hj hz hE ⊢
      have hz2 : 1 + ((joinT [44] ts).length + 1 + 1) ≤ 100000 := by omega
      have hz3 : (joinT [44] ts).length ≤ 99997 := by omega
      have hz4 : (joinT [44] ts).length ≤ 99998 := by omega
      have hz5 : 1 + (joinT [44] ts).length ≤ 100000 := by omega
      by_cases he : ks = []
      · subst he
        simp [b_part_text, isAL, isAny, hm, hc, hj, hE, strsD_map, lab_ne ok.1]
      · have he' : ks.isEmpty = false := by simpa using he
        simp [b_part_text, isAL, isAny, hm, hc, hj, hE, he, hz2, hz3, hz4, hz5, strsD_map, lab_ne ok.1]
theorem spot_chars {s : Sp} (h : okSp s) : ∀ i : Nat, s = .kid i → i ≤ 2 := fun i e => by subst e; exact h
theorem spot_text_spec (F k : Nat) {s : Sp} (h : okSp s) (st : Sto) : pr.call F (k + 1) f_spot_text [dSp s] st = .ok (.str (txS s)) st := by
  rw [u_spot_text]
  cases s with
  | no => simp [b_spot_text, dSp, txS]
  | top =>
    have hc : ev (pr.cl F k) c_spot_text [some (dSp .top), none] st = .ok (.loc st.length) (st ++ [.lst [.str [116, 111, 112]]]) :=
      comp_map (l := [()]) (u := fun _ => D.str [116, 111, 112]) (v := fun _ => D.str [116, 111, 112]) (w := ⟨[.str [116, 111, 112]], none⟩) (s1 := st) (by simp [dSp]) rfl rfl (by show _ ≤ 100000; simp) fun u _ => by simp [c_spot_texte]
    rw [dSp] at hc ⊢
    simp [b_spot_text, hc, dSp, txS, strsD, joinT]
  | under c =>
    have hc : ev (pr.cl F k) c_spot_text [some (dSp (.under c)), none] st = .ok (.loc st.length) (st ++ [.lst [.str [117, 110, 100, 101, 114], .str [c]]]) :=
      comp_map (l := [[117, 110, 100, 101, 114], [c]]) (u := fun t => D.str t) (v := fun t => D.str t) (w := ⟨[.str [117, 110, 100, 101, 114], .str [c]], none⟩) (s1 := st) (by simp [dSp]) rfl rfl (by show _ ≤ 100000; simp) fun u _ => by simp [c_spot_texte]
    rw [dSp] at hc ⊢
    simp [b_spot_text, hc, dSp, txS, strsD, joinT]
  | kid i =>
    have h : i ≤ 2 := h
    have hc : ev (pr.cl F k) c_spot_text [some (dSp (.kid i)), none] st = .ok (.loc st.length) (st ++ [.lst [.str [107, 105, 100], .str [48 + i]]]) :=
      comp_map (l := [(D.str [107, 105, 100], [107, 105, 100]), (D.int i, [48 + i])]) (u := fun t => t.1) (v := fun t => D.str t.2) (w := ⟨[.str [107, 105, 100], .int i], none⟩) (s1 := st) (by simp [dSp]) rfl rfl (by show _ ≤ 100000; simp) fun u hu => by
        rcases List.mem_cons.mp hu with rfl | hu
        · simp [c_spot_texte]
        · rcases List.mem_cons.mp hu with rfl | hu
          · simp [c_spot_texte, (by omega : (i : Int) < 10)]
          · cases hu
    rw [dSp] at hc ⊢
    simp [b_spot_text, hc, dSp, txS, strsD, joinT]
def spotW : Sp → List Tx
  | .no => [] | .top => [[116, 111, 112]] | .under c => [[117, 110, 100, 101, 114], [c]] | .kid i => [[107, 105, 100], [48 + i]]
theorem spotW_join {s : Sp} (hn : s ≠ .no) : joinT [58] (spotW s) = txS s := by cases s <;> first | exact absurd rfl hn | rfl
theorem spotW_sum (s : Sp) : ((spotW s).map List.length).sum + (spotW s).length ≤ 100000 := by cases s <;> simp [spotW]
/-- the law's own word for a spot -/
theorem spot_word (F k : Nat) {s : Sp} (h : okSp s) (hn : s ≠ .no) (st : Sto) (ρ : Env) (h8 : ρ[8]? = some (some (dSp s))) (hl : ρ.length = 13) : ev (pr.cl F k) c_law ρ st = .ok (.loc st.length) (st ++ [.lst ((spotW s).map D.str)]) := by
  have hv : ∀ t, (ρ.set 12 (some t))[12]? = some (some t) := fun t => by simp [hl]
  cases s with
  | no => exact absurd rfl hn
  | top =>
    have hc : ev (pr.cl F k) c_law ρ st = .ok (.loc st.length) (st ++ [.lst [.str [116, 111, 112]]]) :=
      comp_map (l := [()]) (u := fun _ => D.str [116, 111, 112]) (v := fun _ => D.str [116, 111, 112]) (w := ⟨[.str [116, 111, 112]], none⟩) (s1 := st) (by simp [dSp, h8]) rfl rfl (by show _ ≤ 100000; simp) fun u _ => by simp [c_lawe, hv]
    exact hc
  | under c =>
    have hc : ev (pr.cl F k) c_law ρ st = .ok (.loc st.length) (st ++ [.lst [.str [117, 110, 100, 101, 114], .str [c]]]) :=
      comp_map (l := [[117, 110, 100, 101, 114], [c]]) (u := fun t => D.str t) (v := fun t => D.str t) (w := ⟨[.str [117, 110, 100, 101, 114], .str [c]], none⟩) (s1 := st) (by simp [dSp, h8]) rfl rfl (by show _ ≤ 100000; simp) fun u _ => by simp [c_lawe, hv]
    exact hc
  | kid i =>
    have h : i ≤ 2 := h
    have hc : ev (pr.cl F k) c_law ρ st = .ok (.loc st.length) (st ++ [.lst [.str [107, 105, 100], .str [48 + i]]]) :=
      comp_map (l := [(D.str [107, 105, 100], [107, 105, 100]), (D.int i, [48 + i])]) (u := fun t => t.1) (v := fun t => D.str t.2) (w := ⟨[.str [107, 105, 100], .int i], none⟩) (s1 := st) (by simp [dSp, h8]) rfl rfl (by show _ ≤ 100000; simp) fun u hu => by
        rcases List.mem_cons.mp hu with rfl | hu
        · simp [c_lawe, hv]
        · rcases List.mem_cons.mp hu with rfl | hu
          · simp [c_lawe, hv, (by omega : (i : Int) < 10)]
          · cases hu
    exact hc
end Law
namespace Law
open Z
/-! ### the reader -/
def kdT (b : Bool) : Tx := if b = true then [112, 97, 116, 116, 101, 114, 110] else [98, 117, 105, 108, 100]
def sg (X : Tx) (i : Nat) (b : Bool) : Cell := .ins 0 [(n_text, .str X), (n_at, .int i), (n_kind, .str (kdT b))]
section
variable {s g h : Sto} {c c' : Cell} {d : D}
@[simp] theorem so_get : (s ++ c :: g)[s.length]? = some c := by simp
@[simp] theorem so_set : (s ++ c :: g).set s.length c' = s ++ c' :: g := by simp
theorem so_get2 : (s ++ c :: (g ++ c' :: h))[s.length + (g.length + 1)]? = some c' := by
  rw [List.getElem?_append_right (by omega), Nat.add_sub_cancel_left]; simp
theorem so_set2 {x : Cell} : (s ++ c :: (g ++ c' :: h)).set (s.length + (g.length + 1)) x = s ++ c :: (g ++ x :: h) := by
  rw [List.set_append_right _ _ (by omega), Nat.add_sub_cancel_left]; simp
theorem fin_soc {X : Tx} {j : Nat} {b : Bool} (hd : clD 0 d = true) : finish (s ++ c :: g) (.ok d (s ++ sg X j b :: (g ++ h))) = .ok d (s ++ sg X j b :: g) := by
  rw [finish_old (fun k hk => ?_) (all_mono (Nat.zero_le _) (clD_locs hd))]
  · congr 1
    rw [show s ++ sg X j b :: (g ++ h) = (s ++ sg X j b :: g) ++ h by simp, List.take_left' (by simp)]
  · by_cases h1 : k < s.length
    · left
      rw [List.getElem?_append_left h1, List.getElem?_append_left h1]
    · by_cases h2 : k = s.length
      · subst h2
        right
        rw [so_get]; rfl
      · left
        rw [List.getElem?_append_right (by omega), List.getElem?_append_right (by omega)]
        obtain ⟨m, rfl⟩ : ∃ m, k = s.length + 1 + m := ⟨k - s.length - 1, by omega⟩
        simp only [List.length_append, List.length_cons] at hk
        rw [show s.length + 1 + m - s.length = m + 1 by omega, List.getElem?_cons_succ, List.getElem?_cons_succ, List.getElem?_append_left (by omega)]
theorem fin_so {X : Tx} {i j : Nat} {b : Bool} (hd : clD 0 d = true) : finish (s ++ sg X i b :: g) (.ok d (s ++ sg X j b :: (g ++ h))) = .ok d (s ++ sg X j b :: g) := fin_soc hd
theorem fin_so0 {X : Tx} {i j : Nat} {b : Bool} (hd : clD 0 d = true) : finish (s ++ sg X i b :: g) (.ok d (s ++ sg X j b :: g)) = .ok d (s ++ sg X j b :: g) := by
  have := fin_so (s := s) (g := g) (h := []) (X := X) (i := i) (j := j) (b := b) hd
  rwa [List.append_nil] at this
end
section
variable {a b c d : D}
@[simp] theorem lk_text : List.lookup n_text [(n_text, a), (n_at, b), (n_kind, c)] = some a := (rfl)
@[simp] theorem lk_at : List.lookup n_at [(n_text, a), (n_at, b), (n_kind, c)] = some b := (rfl)
@[simp] theorem lk_kind : List.lookup n_kind [(n_text, a), (n_at, b), (n_kind, c)] = some c := (rfl)
@[simp] theorem lk_here : List.lookup n_here [(n_text, a), (n_at, b), (n_kind, c)] = none := (rfl)
@[simp] theorem lk_take : List.lookup n_take [(n_text, a), (n_at, b), (n_kind, c)] = none := (rfl)
@[simp] theorem lk_part : List.lookup n_part [(n_text, a), (n_at, b), (n_kind, c)] = none := (rfl)
@[simp] theorem lk_do : List.lookup n_do [(n_text, a), (n_at, b), (n_kind, c)] = none := (rfl)
@[simp] theorem lk_whole : List.lookup n_whole [(n_text, a), (n_at, b), (n_kind, c)] = none := (rfl)
@[simp] theorem pf_at : putF' n_at d [(n_text, a), (n_at, b), (n_kind, c)] = [(n_text, a), (n_at, d), (n_kind, c)] := by simp [putF']
end
theorem cut_one (X : Tx) (i : Nat) : cutD X (some (i : Int)) (some ((i : Int) + 1)) = (X.drop i).take 1 := by
  unfold cutD
  rw [show ((i : Int) + 1) = ((i + 1 : Nat) : Int) by omega, HT.sIx_nat, HT.sIx_nat]
  by_cases h : i + 1 ≤ X.length
  · rw [Nat.min_eq_left h, Nat.min_eq_left (by omega), Nat.add_sub_cancel_left]
  · rw [Nat.min_eq_right (by omega)]
    by_cases h2 : i = X.length
    · subst h2; simp
    · rw [Nat.min_eq_right (by omega), List.drop_eq_nil_of_le (by omega : X.length ≤ i)]; simp
@[simp] theorem mh_here : pr.meth 0 m_here = some f_Signs_here := (rfl)
@[simp] theorem mh_take : pr.meth 0 m_take = some f_Signs_take := (rfl)
@[simp] theorem mh_part : pr.meth 0 m_part = some f_Signs_part := (rfl)
@[simp] theorem mh_do : pr.meth 0 m_do = some f_Signs_do := (rfl)
@[simp] theorem mh_whole : pr.meth 0 m_whole = some f_Signs_whole := (rfl)
@[simp] theorem ini_Signs : pr.ini 0 = some f_Signs_init := (rfl)
theorem bi_dig {a : Nat} (h : a ≤ 9) (st : Sto) : biD .int (.str [48 + a]) st = .ok (.int a) st := by
  unfold biD digitT
  simp [h]
  rw [if_pos (by omega)]
  simp; omega
theorem drop_next {X : Tx} {i c : Nat} {r : Tx} (h : X.drop i = c :: r) : X.drop (i + 1) = r := by
  rw [← List.tail_drop, h]; rfl
theorem drop_more {X : Tx} {i : Nat} {p r : Tx} (h : X.drop i = p ++ r) : X.drop (i + p.length) = r := by
  rw [← List.drop_drop, h, List.drop_left' rfl]
section
variable (F k : Nat) {s g : Sto} {X : Tx} {i : Nat} {b : Bool}
theorem here_spec (hX : X.length ≤ 100000) : pr.call F (k + 1) f_Signs_here [.loc s.length] (s ++ sg X i b :: g) = .ok (.str ((X.drop i).take 1)) (s ++ sg X i b :: g) := by
  rw [u_Signs_here]
  simp [b_Signs_here, sg, hX, cut_one]
theorem take_sign (hX : X.length ≤ 100000) {c : Nat} {r signs : Tx} (h : X.drop i = c :: r) (hc : c ∈ signs) : pr.call F (k + 2) f_Signs_take [.loc s.length, .str signs] (s ++ sg X i b :: g) = .ok (.str [c]) (s ++ sg X (i + 1) b :: g) := by
  have e := here_spec F k (s := s) (g := g) (i := i) (b := b) hX
  rw [h] at e
  have f := fin_so0 (s := s) (g := g) (X := X) (i := i) (j := i + 1) (b := b) (d := .str [c]) rfl
  rw [u_Signs_take]
  simp [b_Signs_take, sg] at e f ⊢
  simp [e, hc, f]
theorem do_spec (hX : X.length ≤ 100000) {n : Nat} {p : List Nat} {r : Tx} (h : X.drop i = txU (.go n p) ++ r) (ok : okU false (.go n p)) (hr : r.head? ≠ some 46) :
    pr.call F (k + 3) f_Signs_do [.loc s.length] (s ++ sg X i b :: g) = .ok (dU (.go n p)) (s ++ sg X (i + (txU (.go n p)).length) b :: g) := by
  rw [okU] at ok
  obtain ⟨_, h1, h2, h3, h4⟩ := ok
  rw [txU] at h ⊢
  cases p with
  | nil => simp at h2
  | cons a p =>
    have ha := h4 a (by simp)
    have e1 := take_sign F k (s := s) (g := g) (i := i) (b := b) (signs := [48, 49, 50, 51, 52, 53, 54, 55, 56, 57]) hX h (by simp; omega)
    have d1 := drop_next h
    have e2 := take_sign F k (s := s) (g := g) (i := i + 1) (b := b) (signs := [58]) hX d1 (by simp)
    have d2 := drop_next d1
    have i9 := bi_dig (by omega : n ≤ 9)
    have a9 := bi_dig (by omega : a ≤ 9)
    cases p with
    | nil =>
      have d2' : X.drop (i + 1 + 1) = (48 + a) :: r := d2
      have e3 := take_sign F k (s := s) (g := g) (i := i + 1 + 1) (b := b) (signs := [48, 49, 50, 51, 52, 53, 54, 55, 56, 57]) hX d2' (by simp; omega)
      have d3 := drop_next d2'
      have e4 := fun g => here_spec F (k + 1) (s := s) (g := g) (i := i + 1 + 1 + 1) (b := b) hX
      rw [d3] at e4
      have hne : ¬ (r.take 1 = [46]) := fun z => hr (by cases r <;> simp at z ⊢; exact z)
      have f := fun h => fin_so (s := s) (g := g) (X := X) (i := i) (j := i + 1 + 1 + 1) (b := b) (d := dU (.go n [a])) (h := h) (by rw [dU]; rfl)
      have hj : i + (1 + 1 + 1) = i + 1 + 1 + 1 := by omega
      rw [u_Signs_do, show i + ((48 + n) :: 58 :: joinT [46] (List.map dig [a])).length = i + 1 + 1 + 1 from rfl]
      simp [b_Signs_do, sg, dU, dPa] at e1 e2 e3 e4 f ⊢
      simp [e1, e2, e3, e4, hne, f, so_get2, so_set2, i9, a9]
    | cons a2 p =>
      have hp : p = [] := by cases p <;> simp at h3 ⊢
      subst hp
      have ha2 := h4 a2 (by simp)
      have a29 := bi_dig (by omega : a2 ≤ 9)
      have d2' : X.drop (i + 1 + 1) = (48 + a) :: 46 :: (48 + a2) :: r := d2
      have e3 := take_sign F k (s := s) (g := g) (i := i + 1 + 1) (b := b) (signs := [48, 49, 50, 51, 52, 53, 54, 55, 56, 57]) hX d2' (by simp; omega)
      have d3 := drop_next d2'
      have e4 := fun g => here_spec F (k + 1) (s := s) (g := g) (i := i + 1 + 1 + 1) (b := b) hX
      rw [d3] at e4
      have d4 := drop_next d3
      have e5 := fun g => take_sign F k (s := s) (g := g) (i := i + 1 + 1 + 1 + 1) (b := b) (signs := [48, 49, 50, 51, 52, 53, 54, 55, 56, 57]) hX d4 (by simp; omega)
      have f := fun h => fin_so (s := s) (g := g) (X := X) (i := i) (j := i + 1 + 1 + 1 + 1 + 1) (b := b) (d := dU (.go n [a, a2])) (h := h) (by rw [dU]; rfl)
      rw [u_Signs_do, show i + ((48 + n) :: 58 :: joinT [46] (List.map dig [a, a2])).length = i + 1 + 1 + 1 + 1 + 1 from rfl]
      simp [b_Signs_do, sg, dU, dPa] at e1 e2 e3 e4 e5 f ⊢
      simp [e1, e2, e3, e4, e5, f, so_get2, so_set2, i9, a9, a29]
end
end Law
namespace Law
open Z
def kidsT (ts : List U) : Tx := ts.flatMap fun t => 44 :: txU t
theorem join_kids (x : U) (ts : List U) : joinT [44] (txUs (x :: ts)) = txU x ++ kidsT ts := by
  induction ts generalizing x with
  | nil => simp [txUs, joinT, kidsT]
  | cons y ts ih =>
    have e : joinT [44] (txUs (x :: y :: ts)) = txU x ++ [44] ++ joinT [44] (txUs (y :: ts)) := by rw [txUs, txUs]; rfl
    rw [e, ih y]; simp [kidsT]
theorem head_kids {ts : List U} {r : Tx} : (kidsT ts ++ 41 :: r).head? = some 44 ∨ (kidsT ts ++ 41 :: r).head? = some 41 := by
  cases ts with
  | nil => exact .inr rfl
  | cons t ts => exact .inl rfl
/-- what reading a part does -/
def Reads (F k : Nat) (b : Bool) (u : U) : Prop := ∀ (s g : Sto) (X : Tx) (i : Nat) (r : Tx), X.length ≤ 100000 → X.drop i = txU u ++ r → r.head? ≠ some 40 → r.head? ≠ some 46 →
  pr.call F k f_Signs_part [.loc s.length] (s ++ sg X i b :: g) = .ok (dU u) (s ++ sg X (i + (txU u).length) b :: g)
theorem kids_loop (F k : Nat) {b : Bool} {s g : Sto} {X : Tx} (hX : X.length ≤ 100000) {v1 : Option D} {r : Tx} : ∀ (ts : List U) (ds : List D) (i n : Nat), (∀ t ∈ ts, Reads F (k + 2) b t) → ts.length < n → ds.length + ts.length ≤ 1000 → X.drop i = kidsT ts ++ 41 :: r →
    loopW (evT (pr.cl F (k + 2)) (.cmp .eq (.om n_take m_take (.var 0) (.cons (.cst (.str [44, 41])) .nil)) (.cst (.str [44])))) (evSs (pr.cl F (k + 2)) F l_Signs_partb) n [some (.loc s.length), v1, some (.loc (s.length + (g.length + 1)))] (s ++ sg X i b :: (g ++ [.lst ds]))
      = .ok .nx [some (.loc s.length), v1, some (.loc (s.length + (g.length + 1)))] (s ++ sg X (i + (kidsT ts).length + 1) b :: (g ++ [.lst (ds ++ ts.map dU)])) := by
  intro ts
  induction ts with
  | nil =>
    intro ds i n _ hn hl h
    obtain ⟨n, rfl⟩ : ∃ m, n = m + 1 := ⟨n - 1, by omega⟩
    have e := fun g => take_sign F k (s := s) (g := g) (i := i) (b := b) (signs := [44, 41]) hX h (by simp)
    refine (w_stop (s1 := s ++ sg X (i + 1) b :: (g ++ [.lst ds])) ?_).trans ?_
    · simp [sg] at e ⊢
      simp [e]
    · simp [kidsT]
  | cons t ts ih =>
    intro ds i n hR hn hl h
    obtain ⟨n, rfl⟩ : ∃ m, n = m + 1 := ⟨n - 1, by omega⟩
    have h' : X.drop i = 44 :: (txU t ++ (kidsT ts ++ 41 :: r)) := by rw [h]; simp [kidsT]
    have e := fun g => take_sign F k (s := s) (g := g) (i := i) (b := b) (signs := [44, 41]) hX h' (by simp)
    have d1 := drop_next h'
    have hh := head_kids (ts := ts) (r := r)
    have e2 := fun g => hR t (by simp) s g X (i + 1) _ hX d1 (by rcases hh with z | z <;> rw [z] <;> decide) (by rcases hh with z | z <;> rw [z] <;> decide)
    have d2 := drop_more d1
    have hlen : ds.length < 100000 := by simp at hl; omega
    refine (w_turn (s1 := s ++ sg X (i + 1) b :: (g ++ [.lst ds])) (s2 := s ++ sg X (i + 1 + (txU t).length) b :: (g ++ [.lst (ds ++ [dU t])])) ?_ ?_ (ih (ds ++ [dU t]) (i + 1 + (txU t).length) n (fun t ht => hR t (by simp [ht])) (by simp at hn; omega) (by simp at hl ⊢; omega) d2)).trans ?_
    · simp [sg] at e ⊢
      simp [e]
    · simp [l_Signs_partb, sg] at e2 ⊢
      simp [e2, so_get2, so_set2, hlen]
    · have e : i + 1 + (txU t).length + (kidsT ts).length + 1 = i + (kidsT (t :: ts)).length + 1 := by simp [kidsT]; omega
      rw [e]; simp
theorem szUs_len (ts : List U) : ts.length ≤ szUs ts := by
  induction ts with
  | nil => simp
  | cons t ts ih => have := szU_pos t; rw [szUs]; simp only [List.length_cons]; omega
theorem part_spec (F : Nat) (hF : 110 ≤ F) {b : Bool} : ∀ (k : Nat) (u : U), htU u ≤ k → okU b u → szU u ≤ 100 → Reads F (k + 3) b u := by
  intro k
  induction k with
  | zero => intro u h; have := htU_pos u; omega
  | succ k ih =>
    intro u hh ok hz s g X i r hX h h40 h46
    rw [u_Signs_part]
    have e0 := here_spec F (k + 2) (s := s) (g := g) (i := i) (b := b) hX
    cases u with
    | any =>
      rw [okU] at ok; subst ok
      rw [txU] at h ⊢
      rw [h] at e0
      have e1 := take_sign F (k + 1) (s := s) (g := g) (i := i) (b := true) (signs := [63, 46]) hX h (by simp)
      have f := fin_so0 (s := s) (g := g) (X := X) (i := i) (j := i + 1) (b := true) (d := dU .any) (by rw [dU]; rfl)
      have m : ∀ st, memD st (.str [63]) (.tup [.str [63], .str [46]]) = some true := fun st => by
        show memS st (.str [63]) [.str [63], .str [46]] = some true
        rw [memS_pl (by decide) (by decide) (by decide) (by decide)]; simp
      simp [b_Signs_part, sg, dU, kdT] at e0 e1 f ⊢
      simp [e0, e1, m, f]
    | leaf =>
      rw [okU] at ok; subst ok
      rw [txU] at h ⊢
      rw [h] at e0
      have e1 := take_sign F (k + 1) (s := s) (g := g) (i := i) (b := true) (signs := [63, 46]) hX h (by simp)
      have f := fin_so0 (s := s) (g := g) (X := X) (i := i) (j := i + 1) (b := true) (d := dU .leaf) (by rw [dU]; rfl)
      have m : ∀ st, memD st (.str [46]) (.tup [.str [63], .str [46]]) = some true := fun st => by
        show memS st (.str [46]) [.str [63], .str [46]] = some true
        rw [memS_pl (by decide) (by decide) (by decide) (by decide)]; simp
      simp [b_Signs_part, sg, dU, kdT] at e0 e1 f ⊢
      simp [e0, e1, m, f]
    | go n p =>
      have ok' := ok
      rw [okU] at ok; obtain ⟨rfl, h1, h2, h3, h4⟩ := ok
      have e1 := do_spec F k (s := s) (g := g) (i := i) (b := false) hX h ok' h46
      have hd : X.drop i = (48 + n) :: (58 :: joinT [46] (p.map dig) ++ r) := by rw [h, txU]; rfl
      rw [hd] at e0
      have f := fin_so0 (s := s) (g := g) (X := X) (i := i) (j := i + (txU (.go n p)).length) (b := false) (d := dU (.go n p)) (dU_cl ok' 0)
      have hn : 48 + n ∈ ([48, 49, 50, 51, 52, 53, 54, 55, 56, 57] : List Nat) := by simp; omega
      generalize dU (.go n p) = dd at e1 f ⊢
      generalize (txU (.go n p)).length = ll at e1 f ⊢
      simp [b_Signs_part, sg, kdT] at e0 e1 f ⊢
      simp at hn
      simp [e0, e1, hn, f]
    | node c ks =>
      have ok' := ok
      rw [okU] at ok
      obtain ⟨hc, okk⟩ := ok
      rw [htU] at hh; rw [szU] at hz
      have hlk := szUs_len ks
      have hd : ∃ r', X.drop i = c :: r' := by
        rw [h, txU]; split
        · exact ⟨_, rfl⟩
        · exact ⟨_, rfl⟩
      obtain ⟨r', hd⟩ := hd
      rw [hd] at e0
      have m : ∀ st, memD st (.str [c]) (.tup [.str [63], .str [46]]) = some false := fun st => by
        show memS st (.str [c]) [.str [63], .str [46]] = some false
        rw [memS_pl (by simp [plD, LIM]; omega) (by decide) (by simp [depD]) (by decide)]; simp; omega
      have e1 := take_sign F (k + 1) (s := s) (g := g) (i := i) (b := b) (signs := [97, 98, 99, 100, 101, 102]) hX hd (by simp; omega)
      have d1 := drop_next hd
      have e2 := fun g => here_spec F (k + 2) (s := s) (g := g) (i := i + 1) (b := b) hX
      have f := fun h => fin_so (s := s) (g := g) (X := X) (i := i) (j := i + (txU (.node c ks)).length) (b := b) (d := dU (.node c ks)) (h := h) (dU_cl ok' 0)
      have nf : ¬ (c = 48 ∨ c = 49 ∨ c = 50 ∨ c = 51 ∨ c = 52 ∨ c = 53 ∨ c = 54 ∨ c = 55 ∨ c = 56 ∨ c = 57) := by omega
      by_cases he : ks = []
      · subst he
        have d1' : X.drop (i + 1) = r := by
          have h : X.drop i = c :: r := by rw [h, txU]; rfl
          exact drop_next h
        rw [d1'] at e2
        have hne : ¬ (r.take 1 = [40]) := fun z => h40 (by cases r <;> simp at z ⊢; exact z)
        cases b <;> simp [b_Signs_part, sg, dU, dUs, kdT, txU] at e0 e1 e2 f ⊢ <;> simp [e0, e1, e2, m, hne, nf, f, so_get2, so_set2]
      · obtain ⟨x, xs, rfl⟩ : ∃ x xs, ks = x :: xs := by cases ks with
          | nil => exact absurd rfl he
          | cons x xs => exact ⟨x, xs, rfl⟩
        have h : X.drop i = c :: 40 :: (txU x ++ (kidsT xs ++ 41 :: r)) := by
          rw [h, txU, join_kids]; simp
        have d1 := drop_next h
        rw [d1] at e2
        have d2 := drop_next d1
        have hhd := head_kids (ts := xs) (r := r)
        rw [htUs] at hh; rw [szUs] at hz hlk; rw [okUs] at okk
        have hlk2 := szUs_len xs
        have e3 := fun g => ih x (by omega) okk.1 (by omega) s g X (i + 1 + 1) _ hX d2 (by rcases hhd with z | z <;> rw [z] <;> decide) (by rcases hhd with z | z <;> rw [z] <;> decide)
        have d3 := drop_more d2
        have e4 := kids_loop F (k + 1) (b := b) (s := s) (g := g) hX (v1 := some (.str [c])) xs [dU x] (i + 1 + 1 + (txU x).length) F (fun t ht => ih t (by have := htUs_le ht; omega) (okUs_mem okk.2 ht) (by have := szUs_mem ht; omega)) (by omega) (by simp; omega) d3
        have hj : i + (txU (.node c (x :: xs))).length = i + 1 + 1 + (txU x).length + (kidsT xs).length + 1 := by
          rw [txU, join_kids]; simp; omega
        rw [hj] at f ⊢
        rw [dU, dUs_map] at f ⊢
        rw [List.map_cons] at f ⊢
        cases b <;> simp [b_Signs_part, sg, kdT, l_Signs_part] at e0 e1 e2 e3 e4 f ⊢ <;> simp [e0, e1, e2, e3, e4, m, nf, f, so_get2, so_set2]
end Law
namespace Law
open Z
@[simp] theorem y_tryN {C : Cl} {F : Nat} {ss : ISs} {ρ : Env} {st : Sto} : evS C F (.tryN ss) ρ st = (evSs C F ss ρ st).noex := by rw [evS]
@[simp] theorem SR_noex_ok {f : Fl} {ρ : Env} {st : Sto} : (SR.ok f ρ st).noex = .ok f ρ st := (rfl)
section
variable (F k : Nat) {s : Sto} {X : Tx} {b : Bool}
theorem init_spec : pr.call F (k + 1) f_Signs_init [.loc s.length, .str X, .str (kdT b)] (s ++ [.ins 0 []]) = .ok .non (s ++ [sg X 0 b]) := by
  have f := fin_soc (s := s) (g := []) (h := []) (c := .ins 0 []) (X := X) (j := 0) (b := b) (d := .non) rfl
  rw [u_Signs_init]
  simp [b_Signs_init, sg, putF'] at f ⊢
  simp [f]
theorem whole_spec (hF : 110 ≤ F) {u : U} (ok : okU b u) (hh : htU u ≤ k) (hz : szU u ≤ 100) (hX : X = txU u) : pr.call F (k + 4) f_Signs_whole [.loc s.length] (s ++ [sg X 0 b]) = .ok (dU u) (s ++ [sg X X.length b]) := by
  have hl := txU_len u ok
  have e := part_spec F hF k u hh ok hz s [] X 0 [] (by rw [hX]; omega) (by rw [hX]; simp) (by decide) (by decide)
  have f := fin_so0 (s := s) (g := []) (X := X) (i := 0) (j := X.length) (b := b) (d := dU u) (dU_cl ok 0)
  rw [Nat.zero_add, ← hX] at e
  rw [u_Signs_whole]
  simp [b_Signs_whole, sg] at e f ⊢
  have : X.length ≤ 100000 := by rw [hX]; omega
  simp [e, f, this]
end
theorem spot_of_spec (F k : Nat) {sp : Sp} (h : okSp sp) {n : D} (st : Sto) : pr.call F (k + 1) f_spot_of [.str (txS sp), n] st = .ok (dSp sp) st := by
  have m : ∀ t : Tx, (plD (.str t) = true) → memD st (.str t) (.tup [.str [45], .str [116, 111, 112]]) = some (decide (t = [45] ∨ t = [116, 111, 112])) := fun t ht => by
    show memS st (.str t) [.str [45], .str [116, 111, 112]] = _
    rw [memS_pl ht (by decide) (by simp [depD]) (by decide)]; simp
  rw [u_spot_of]
  cases sp with
  | no => simp [b_spot_of, txS, dSp, m, plD, LIM]
  | top => simp [b_spot_of, txS, dSp, m, plD, LIM]
  | under c =>
    have h : 97 ≤ c ∧ c ≤ 102 := h
    have e : splitT 58 (txS (.under c)) = [[117, 110, 100, 101, 114], [c]] := split_join (parts := [[117, 110, 100, 101, 114], [c]]) (by simp) (by simp; omega)
    have m' := m (txS (.under c)) (by simp [txS, plD, LIM]; omega)
    rw [txS] at e m' ⊢
    have hc : c = 97 ∨ c = 98 ∨ c = 99 ∨ c = 100 ∨ c = 101 ∨ c = 102 := by omega
    simp [b_spot_of, dSp, m', e, hc]
  | kid i =>
    have h : i ≤ 2 := h
    have e : splitT 58 (txS (.kid i)) = [[107, 105, 100], [48 + i]] := split_join (parts := [[107, 105, 100], [48 + i]]) (by simp) (by simp; omega)
    have m' := m (txS (.kid i)) (by simp [txS, plD, LIM]; omega)
    have i9 := bi_dig (by omega : i ≤ 9)
    rw [txS] at e m' ⊢
    have hn : 48 + i ∈ ([48, 49, 50, 51, 52, 53, 54, 55, 56, 57] : List Nat) := by simp; omega
    simp at hn
    simp [b_spot_of, dSp, m', e, hn, i9]
end Law
namespace Law
open Z
theorem joinT_mem {c x : Nat} : ∀ {ts : List Tx}, x ∈ joinT [c] ts → x = c ∨ ∃ t ∈ ts, x ∈ t
  | [], h => by simp [joinT] at h
  | [t], h => .inr ⟨t, by simp, h⟩
  | t :: u :: ts, h => by
    have e : joinT [c] (t :: u :: ts) = t ++ [c] ++ joinT [c] (u :: ts) := rfl
    rw [e] at h
    simp only [List.mem_append, List.mem_singleton] at h
    rcases h with (h | h) | h
    · exact .inr ⟨t, by simp, h⟩
    · exact .inl h
    · rcases joinT_mem h with h | ⟨v, hv, hx⟩
      · exact .inl h
      · exact .inr ⟨v, by simp only [List.mem_cons] at hv ⊢; exact .inr hv, hx⟩
mutual
theorem txU_ch : ∀ {b : Bool} (u : U), okU b u → ∀ x ∈ txU u, 33 ≤ x
  | _, .any, _, x, h => by simp [txU] at h; omega
  | _, .leaf, _, x, h => by simp [txU] at h; omega
  | _, .go s p, _, x, h => by
    rw [txU] at h
    rcases List.mem_cons.mp h with rfl | h
    · omega
    · rcases List.mem_cons.mp h with rfl | h
      · omega
      · rcases joinT_mem h with rfl | ⟨t, ht, hx⟩
        · omega
        · obtain ⟨i, _, rfl⟩ := List.mem_map.mp ht
          simp [dig] at hx; omega
  | b, .node c ks, ok, x, h => by
    rw [okU] at ok
    have hk := txUs_ch ks ok.2
    rw [txU] at h
    split at h
    · simp at h; omega
    · simp only [List.mem_cons, List.mem_append, List.not_mem_nil, or_false] at h
      rcases h with rfl | rfl | h | rfl
      · omega
      · omega
      · rcases joinT_mem h with rfl | ⟨t, ht, hx⟩
        · omega
        · exact hk t ht x hx
      · omega
theorem txUs_ch : ∀ {b : Bool} (us : List U), okUs b us → ∀ t ∈ txUs us, ∀ x ∈ t, 33 ≤ x
  | _, [], _, t, h => by simp [txUs] at h
  | b, u :: us, ok, t, h => by
    rw [okUs] at ok
    rw [txUs] at h
    rcases List.mem_cons.mp h with rfl | h
    · exact txU_ch u ok.1
    · exact txUs_ch us ok.2 t h
end
theorem txS_ch {s : Sp} (h : okSp s) : ∀ x ∈ txS s, 33 ≤ x := by
  intro x hx
  cases s <;> simp [txS, okSp] at hx h <;> omega
theorem row_parts {r : Ru} (h : okR r) : ∀ t ∈ [dig r.s, txS r.sp, txU (uP r.p), txU (uB r.b)], ∀ x ∈ t, 33 ≤ x := by
  intro t ht x hx
  simp only [List.mem_cons, List.not_mem_nil, or_false] at ht
  rcases ht with rfl | rfl | rfl | rfl
  · simp [dig] at hx; omega
  · exact txS_ch h.sp x hx
  · exact txU_ch _ (okU_P _ h.p) x hx
  · exact txU_ch _ (okU_B h.p _ h.b) x hx
theorem row_split {r : Ru} (h : okR r) : splitT 32 (rowT r) = [dig r.s, txS r.sp, txU (uP r.p), txU (uB r.b)] :=
  split_join (by simp) fun t ht hx => by have := row_parts h t ht 32 hx; omega
theorem row_ch {r : Ru} (h : okR r) : 10 ∉ rowT r := fun hx => by
  rcases joinT_mem hx with z | ⟨t, ht, hx⟩
  · omega
  · have := row_parts h t ht 10 hx; omega
theorem book_split {rs : List Ru} (h : okBk rs) (hn : rs ≠ []) : splitT 10 (bookT rs) = rs.map rowT :=
  split_join (by simpa using hn) fun t ht => by
    obtain ⟨r, hr, rfl⟩ := List.mem_map.mp ht
    exact row_ch (h.ok r hr)
theorem row_ne (r : Ru) : rowT r ≠ [] := by simp [rowT, joinT, dig]
theorem book_ne {rs : List Ru} (hn : rs ≠ []) : bookT rs ≠ [] := by
  cases rs with
  | nil => exact absurd rfl hn
  | cons r rs => exact join_ne (row_ne r)
theorem rows_sum {rs : List Ru} (h : ∀ r ∈ rs, okR r) : ((rs.map rowT).map List.length).sum ≤ 200 * rs.length := by
  induction rs with
  | nil => simp
  | cons r rs ih =>
    have := rowT_len (h r (by simp))
    have := ih fun r hr => h r (by simp [hr])
    simp only [List.map_cons, List.sum_cons, List.length_cons]; omega
theorem bookT_len {rs : List Ru} (h : okBk rs) : (bookT rs).length ≤ 4000 := by
  have h1 := jn_len 10 (rs.map rowT)
  have h2 := rows_sum h.ok
  have := h.few
  rw [List.length_map] at h1
  unfold bookT; omega
theorem rule_of_spec (F k : Nat) (hF : 110 ≤ F) {r : Ru} (h : okR r) {n : D} (st : Sto) : pr.call F (k + 10) f_rule_of [.str (rowT r), n] st = .ok (dR r) st := by
  have hl := rowT_len h
  have hs := row_split h
  have hp := okU_P _ h.p
  have hb := okU_B h.p _ h.b
  have e1 := fun st => spot_of_spec F (k + 8) (n := n) h.sp st
  have e2 := fun s => init_spec F (k + 8) (s := s) (X := txU (uP r.p)) (b := true)
  have e3 := fun s => init_spec F (k + 8) (s := s) (X := txU (uB r.b)) (b := false)
  have e4 := fun s => whole_spec F (k + 5) (s := s) (X := txU (uP r.p)) hF hp (by rw [htU_P]; have := h.ph; omega) (by rw [szU_P]; have := h.pz; omega) rfl
  have e5 := fun s => whole_spec F (k + 5) (s := s) (X := txU (uB r.b)) hF hb (by rw [htU_B]; have := h.bh; omega) (by rw [szU_B]; have := h.bz; omega) rfl
  have s9 := bi_dig (by have := h.s; omega : r.s ≤ 9)
  have hn : 48 + r.s ∈ ([48, 49, 50, 51, 52, 53, 54, 55, 56, 57] : List Nat) := by have := h.s; simp; omega
  simp at hn
  have fin := fun x => finish_new st x (dR r) (pl_cl (dR_pl h))
  have e2 := e2 (st ++ [.lst [.str (dig r.s), .str (txS r.sp), .str (txU (uP r.p)), .str (txU (uB r.b))]])
  have e4 := e4 (st ++ [.lst [.str (dig r.s), .str (txS r.sp), .str (txU (uP r.p)), .str (txU (uB r.b))]])
  have e3 := e3 (st ++ [.lst [.str (dig r.s), .str (txS r.sp), .str (txU (uP r.p)), .str (txU (uB r.b))], sg (txU (uP r.p)) (txU (uP r.p)).length true])
  have e5 := e5 (st ++ [.lst [.str (dig r.s), .str (txS r.sp), .str (txU (uP r.p)), .str (txU (uB r.b))], sg (txU (uP r.p)) (txU (uP r.p)).length true])
  rw [dU_P] at e4; rw [dU_B] at e5
  rw [u_rule_of]
  simp only [dR] at fin ⊢
  simp [kdT, sg, dig] at e2 e3 e4 e5
  simp [b_rule_of, hs, (by omega : (rowT r).length ≤ 99998), dig, hn, e1, e2, e3, e4, e5, s9, fin]
theorem read_comp (F k : Nat) (hF : 110 ≤ F) {rs : List Ru} (h : okBk rs) {x : D} (st : Sto) : ev (pr.cl F (k + 10)) c_read_rules [some x, some (.loc st.length), none, none] (st ++ [.lst (rs.map fun r => .str (rowT r))]) = .ok (.loc (st.length + 1)) (st ++ [.lst (rs.map fun r => .str (rowT r)), .lst (rs.map dR)]) := by
  have hfew := h.few
  have hr : (List.range rs.length).map (fun i => dR (rs.getD i ⟨0, .no, .any, .node 0 []⟩)) = rs.map dR := by
    refine List.ext_getElem (by simp) fun i h1 h2 => ?_
    have : i < rs.length := by simpa using h2
    simp [this]
  have hit : evI (pr.cl F (k + 10)) (.rng1 (.bi .len (.var 1))) [some x, some (.loc st.length), none, none] (st ++ [.lst (rs.map fun r => .str (rowT r))]) = .ok (rngW 0 rs.length) (st ++ [.lst (rs.map fun r => .str (rowT r))]) := by
    have hi : iLim (rs.length : Int) := by unfold iLim; omega
    simp [hi]
  have := comp_rng (C := pr.cl F (k + 10)) (e := c_read_rulese) (tg := .name 3) (own := [3]) (co := .none) (v := fun i => dR (rs.getD i ⟨0, .no, .any, .node 0 []⟩)) (n := rs.length) hit (by show _ ≤ 100000; omega) (fun i hi => by
    have e := rule_of_spec F k hF (r := rs[i]) (n := .int (i : Int)) (h.ok _ (List.getElem_mem hi)) (st ++ [.lst (rs.map fun r => .str (rowT r))])
    have hx : L2.atI (rs.map fun r => D.str (rowT r)) (i : Int) = some (.str (rowT rs[i])) := atI_nat (by simp [hi])
    have hg : rs.getD i ⟨0, .no, .any, .node 0 []⟩ = rs[i] := by simp [List.getD, hi]
    rw [hg]
    simp [c_read_rulese, hx, e])
  rw [hr] at this
  rw [List.append_assoc] at this
  simp only [List.length_append, List.length_cons, List.length_nil, List.cons_append, List.nil_append] at this
  exact this
theorem read_rules_spec (F k : Nat) (hF : 110 ≤ F) {rs : List Ru} (h : okBk rs) (st : Sto) : pr.call F (k + 11) f_read_rules [.str (bookT rs)] st = .ok (.loc st.length) (st ++ [.lst (rs.map dR)]) := by
  have hc := fun x => read_comp F k hF h (x := x) st
  have hfew := h.few
  have nb := need_book_spec F (k + 2) (rs := rs) (n := st.length + 1) (st := st ++ [.lst (rs.map fun r => .str (rowT r)), .lst (rs.map dR)]) (by simp) h
  have fin := finish_newL st [.lst (rs.map fun r => .str (rowT r)), .lst (rs.map dR)] (j := 1) (c := .lst (rs.map dR)) rfl (by
      show (locsDs _).all _ = true
      rw [pls_locs h.pl]; rfl)
  rw [u_read_rules]
  by_cases hn : rs = []
  · subst hn
    simp [bookT, joinT] at nb hc fin ⊢
    simp [b_read_rules, hc, nb, fin]
  · have hl := bookT_len h
    have hs := book_split h hn
    have hne := book_ne hn
    have hs' : (splitT 10 (bookT rs)).map D.str = rs.map fun r => .str (rowT r) := by rw [hs, List.map_map]; rfl
    generalize (rs.map fun r => D.str (rowT r)) = zs at hc nb fin hs'
    generalize rs.map dR = ys at hc nb fin ⊢
    simp [b_read_rules, (by omega : (bookT rs).length ≤ 99998), hne, hs', hc, nb, fin]
end Law
namespace Law
open Z
theorem alike_list (F k : Nat) {a b : Nat} {xs : List D} {st : Sto} (ha : st[a]? = some (.lst xs)) (hb : st[b]? = some (.lst xs)) (hd : depDs xs ≤ k) (hp : purDs xs = true) (hz : ∀ x ∈ xs, sizD x ≤ 1000000) (hl : xs.length ≤ 100000) : pr.call F (k + 1) f_law_alike [.loc a, .loc b] st = .ok (.bl true) st := by
  obtain ⟨ρ', st', e1, rfl, v, rfl⟩ := for_rng (n := xs.length) (tg := .name 2) (b := evSs (pr.cl F k) F l_law_alikeb) (ρ := [some (.loc a), some (.loc b), none]) (st := st)
    (fun _ ρ s => s = st ∧ ∃ v, ρ = [some (.loc a), some (.loc b), v])
    (by
      intro i ρ s hi ⟨e1, v, e2⟩
      subst e1 e2
      have hx : L2.atI xs (i : Int) = some xs[i] := atI_nat (List.getElem?_eq_getElem hi)
      have e := alike_spec F k xs[i] s (by have := depDs_mem (List.getElem_mem hi); omega) (purDs_mem hp (List.getElem_mem hi)) (hz _ (List.getElem_mem hi))
      refine ⟨_, _, _, rfl, .inl ?_, rfl, some (.int i), rfl⟩
      simp [l_law_alikeb, ha, hb, hx, e]) ⟨rfl, none, rfl⟩
  rw [u_law_alike]
  simp [b_law_alike, l_law_alike, ha, hb, (by unfold iLim; omega : iLim (xs.length : Int)), e1]

def KMAX : Nat := 40
def FUEL : Nat := 1000
theorem row_sum {r : Ru} (h : okR r) : 1 + ((txS r.sp).length + ((txU (uP r.p)).length + (txU (uB r.b)).length)) ≤ 99996 := by
  have h1 := txU_len _ (okU_P _ h.p)
  have h2 := txU_len _ (okU_B h.p _ h.b)
  have h3 := txS_len (s := r.sp)
  have := h.pz; have := h.bz
  rw [szU_P] at h1; rw [szU_B] at h2
  omega
theorem written_rules_spec (F k : Nat) {rs : List Ru} {n : Nat} {st : Sto} (hb : st[n]? = some (.lst (rs.map dR))) (h : okBk rs) : pr.call F (k + 20) f_written_rules [.loc n] st = .ok (.str (bookT rs)) st := by
  have nb := need_book_spec F (k + 11) (n := n) hb h
  have hlt : n < st.length := (List.getElem?_eq_some_iff.mp hb).1
  have hfew := h.few
  obtain ⟨ρ', st', e1, a, b, c, d, g, rfl, rfl⟩ := for_inv (w := ⟨rs.map dR, some (n, .lst (rs.map dR))⟩) (tg := .tup [2, 3, 4, 5]) (b := evSs (pr.cl F (k + 19)) F l_written_rulesb) (ρ := [some (.loc n), some (.loc st.length), none, none, none, none]) (st := st ++ [.lst []]) rs dR
    (fun i ρ s => ∃ a b c d g, ρ = [some (.loc n), some (.loc st.length), a, b, c, d] ∧ s = st ++ .lst ((rs.take i).map fun r => .str (rowT r)) :: g) rfl (fun i ρ s hp => by
      obtain ⟨a, b, c, d, g, _, rfl⟩ := hp
      simp [Wk.stays, List.getElem?_append_left hlt, hb])
    (by
      rintro i r ρ s ha ⟨a, b, c, d, g, rfl, rfl⟩
      have ok := h.ok r (List.mem_of_getElem? ha)
      have e1 := fun st => spot_text_spec F (k + 18) ok.sp st
      have e2 := fun st => part_text_spec F (k + 18) (uP r.p) st (by rw [htU_P]; have := ok.ph; omega) (by rw [htU_P]; have := ok.ph; omega) (by rw [szU_P]; have := ok.pz; omega) (okU_P _ ok.p)
      have e3 := fun st => part_text_spec F (k + 18) (uB r.b) st (by rw [htU_B]; have := ok.bh; omega) (by rw [htU_B]; have := ok.bh; omega) (by rw [szU_B]; have := ok.bz; omega) (okU_B ok.p _ ok.b)
      have hi : i < rs.length := (List.getElem?_eq_some_iff.mp ha).1
      have hg : rs[i]? = some r := ha
      have ht : rs.take (i + 1) = rs.take i ++ [r] := by rw [List.take_add_one, hg]; rfl
      have s9 : (r.s : Int) < 10 := by have := ok.s; omega
      have hsum := row_sum ok
      have hlen : (rs.take i).length < 100000 := by simp; omega
      have hst := fun g : Sto => (show (st ++ g)[n]? = some (.lst (rs.map dR)) by rw [List.getElem?_append_left hlt]; exact hb)
      refine ⟨_, [some (.loc n), some (.loc st.length), some (.int r.s), some (dSp r.sp), some (dP r.p), some (dB r.b)], st ++ .lst ((rs.take (i + 1)).map fun r => .str (rowT r)) :: (g ++ [.lst [.str (dig r.s), .str (txS r.sp), .str (txU (uP r.p)), .str (txU (uB r.b))]]), rfl, .inl ?_, _, _, _, _, _, rfl, rfl⟩
      rw [ht]
      rw [dU_P] at e2; rw [dU_B] at e3
      generalize rs.take i = rr at hlen ⊢
      simp [l_written_rulesb, e1, e2, e3, s9, dig, strsD, rowT, hlen, hsum]) ⟨none, none, none, none, [], rfl, by simp⟩
  have fin := fun x => finish_new st x (.str (bookT rs)) rfl
  have hsum : ((rs.map rowT).map List.length).sum + (rs.map rowT).length ≤ 100000 := by
    have := rows_sum h.ok
    rw [List.length_map]; omega
  have hs : strsD (rs.map fun r => D.str (rowT r)) = some (rs.map rowT) := by
    have := strsD_map (rs.map rowT)
    rwa [List.map_map] at this
  rw [List.take_length] at e1
  have hb' : (st ++ [Cell.lst []])[n]? = some (.lst (rs.map dR)) := by rw [List.getElem?_append_left hlt]; exact hb
  rw [u_written_rules]
  unfold bookT at fin ⊢
  generalize rs.map rowT = zs at hs hsum fin ⊢
  generalize (rs.map fun r => D.str (rowT r)) = ys at hs e1
  simp only at e1
  simp [b_written_rules, l_written_rules, nb, hb', e1, hs, hsum, fin]
end Law
namespace Law
open Z
theorem law_rows (F k : Nat) {rs : List Ru} {n : Nat} {st : Sto} (hb : st[n]? = some (.lst (rs.map dR))) (h : okBk rs) {v0 v1 v2 v3 v5 v6 a7 a8 a9 a10 a11 a12 : Option D} : ∃ b7 b8 b9 b10 b11 b12 g,
    loopF ⟨rs.map dR, some (n, .lst (rs.map dR))⟩ (.tup [7, 8, 9, 10]) (evSs (pr.cl F (k + 20)) F l_law2b) (rs.map dR) [v0, v1, v2, v3, some (.loc st.length), v5, v6, a7, a8, a9, a10, a11, a12] (st ++ [.lst []]) =
      .ok .nx [v0, v1, v2, v3, some (.loc st.length), v5, v6, b7, b8, b9, b10, b11, b12] (st ++ .lst (rs.map fun r => .str (rowT r)) :: g) := by
  have hlt : n < st.length := (List.getElem?_eq_some_iff.mp hb).1
  have hfew := h.few
  obtain ⟨ρ', st', e1, b7, b8, b9, b10, b11, b12, g, rfl, rfl⟩ := for_inv (w := ⟨rs.map dR, some (n, .lst (rs.map dR))⟩) (tg := .tup [7, 8, 9, 10]) (b := evSs (pr.cl F (k + 20)) F l_law2b) (ρ := [v0, v1, v2, v3, some (.loc st.length), v5, v6, a7, a8, a9, a10, a11, a12]) (st := st ++ [.lst []]) rs dR
    (fun i ρ s => ∃ b7 b8 b9 b10 b11 b12 g, ρ = [v0, v1, v2, v3, some (.loc st.length), v5, v6, b7, b8, b9, b10, b11, b12] ∧ s = st ++ .lst ((rs.take i).map fun r => .str (rowT r)) :: g) rfl (fun i ρ s hp => by
      obtain ⟨b7, b8, b9, b10, b11, b12, g, _, rfl⟩ := hp
      simp [Wk.stays, List.getElem?_append_left hlt, hb])
    (by
      rintro i r ρ s ha ⟨b7, b8, b9, b10, b11, b12, g, rfl, rfl⟩
      have ok := h.ok r (List.mem_of_getElem? ha)
      have e2 := fun st => law_text_spec F (k + 19) (uP r.p) st (by rw [htU_P]; have := ok.ph; omega) (by rw [szU_P]; have := ok.pz; omega) (okU_P _ ok.p)
      have e3 := fun st => law_text_spec F (k + 19) (uB r.b) st (by rw [htU_B]; have := ok.bh; omega) (by rw [szU_B]; have := ok.bz; omega) (okU_B ok.p _ ok.b)
      have hg : rs[i]? = some r := ha
      have hi : i < rs.length := (List.getElem?_eq_some_iff.mp ha).1
      have ht : rs.take (i + 1) = rs.take i ++ [r] := by rw [List.take_add_one, hg]; rfl
      have s9 : (r.s : Int) < 10 := by have := ok.s; omega
      have hsum := row_sum ok
      have hlen : (rs.take i).length < 100000 := by simp; omega
      rw [dU_P] at e2; rw [dU_B] at e3
      by_cases hn : r.sp = .no
      · rw [hn] at hsum
        simp [txS] at hsum
        refine ⟨_, [v0, v1, v2, v3, some (.loc st.length), v5, v6, some (.int r.s), some .non, some (dP r.p), some (dB r.b), some (.str [45]), b12], st ++ .lst ((rs.take (i + 1)).map fun r => .str (rowT r)) :: (g ++ [.lst [.str (dig r.s), .str (txS r.sp), .str (txU (uP r.p)), .str (txU (uB r.b))]]), rfl, .inl ?_, _, _, _, _, _, _, _, rfl, rfl⟩
        rw [ht]
        generalize rs.take i = rr at hlen ⊢
        simp [l_law2b, hn, dSp, e2, e3, s9, dig, strsD, rowT, txS, hlen, hsum]
      · have hnn : dSp r.sp ≠ .non := by
          revert hn; cases r.sp <;> simp [dSp]
        refine ⟨_, [v0, v1, v2, v3, some (.loc st.length), v5, v6, some (.int r.s), some (dSp r.sp), some (dP r.p), some (dB r.b), some (.str (txS r.sp)), b12], st ++ .lst ((rs.take (i + 1)).map fun r => .str (rowT r)) :: (g ++ [.lst ((spotW r.sp).map D.str), .lst [.str (dig r.s), .str (txS r.sp), .str (txU (uP r.p)), .str (txU (uB r.b))]]), rfl, .inl ?_, _, _, _, _, _, _, _, rfl, rfl⟩
        rw [ht]
        generalize rs.take i = rr at hlen ⊢
        have e4 := spot_word F (k + 20) ok.sp hn (st ++ .lst (rr.map fun r => .str (rowT r)) :: g) [v0, v1, v2, v3, some (.loc st.length), v5, v6, some (.int r.s), some (dSp r.sp), some (dP r.p), some (dB r.b), some (.str [45]), b12] rfl rfl
        have e5 := spotW_join hn
        have e6 := spotW_sum r.sp
        have e7 := strsD_map (spotW r.sp)
        generalize (spotW r.sp).map D.str = ws at e4 e7 ⊢
        generalize spotW r.sp = wt at e5 e6 e7
        simp [rowT, dig] at e4
        simp [l_law2b, hnn, e4, e5, e6, e7, e2, e3, s9, dig, strsD, rowT, hlen, hsum]) ⟨_, _, _, _, _, _, [], rfl, by simp⟩
  rw [List.take_length] at e1
  exact ⟨_, _, _, _, _, _, _, e1⟩
mutual
theorem sizD_U : ∀ {b : Bool} (t : U), okU b t → sizD (dU t) + 1 ≤ 12 * szU t
  | _, .any, _ => by simp [dU, szU, sizD, sizDs]
  | _, .leaf, _ => by simp [dU, szU, sizD, sizDs]
  | _, .go s p, h => by
    rw [okU] at h
    have : ∀ p : List Nat, sizDs (p.map fun (i : Nat) => D.int i) = 2 * p.length := fun p => by
      induction p with
      | nil => rfl
      | cons a p ih =>
        have e : sizD (D.int (a : Int)) = 1 := rfl
        rw [List.map_cons, sizDs, ih, List.length_cons, e]; omega
    simp only [dU, szU, sizD, sizDs, dPa, this]; omega
  | _, .node c ks, h => by
    rw [okU] at h
    have := sizDs_U ks h.2
    simp only [dU, szU, sizD, sizDs]; omega
theorem sizDs_U : ∀ {b : Bool} (ts : List U), okUs b ts → sizDs (dUs ts) ≤ 12 * szUs ts
  | _, [], _ => by simp [dUs, sizDs]
  | _, t :: ts, h => by
    rw [okUs] at h
    have := sizD_U t h.1; have := sizDs_U ts h.2
    rw [dUs, sizDs, szUs]; omega
end
theorem sizD_R {r : Ru} (h : okR r) : sizD (dR r) ≤ 1000000 := by
  have h1 := sizD_U _ (okU_P _ h.p)
  have h2 := sizD_U _ (okU_B h.p _ h.b)
  rw [dU_P, szU_P] at h1; rw [dU_B, szU_B] at h2
  have h3 : sizD (dSp r.sp) ≤ 6 := by cases r.sp <;> simp [dSp, sizD, sizDs]
  have := h.pz; have := h.bz
  simp only [dR, sizD, sizDs]; omega
theorem okL6 : okL [97, 98, 99, 100, 101, 102] := ⟨by decide, by decide, by simp⟩
theorem law_ev : ∀ ns : List Int, ns.length ≤ 63 → ∃ st, pr.call FUEL KMAX f_law [.fl (ns.map D.int)] [] = .ok (.bl true) st := by
  intro ns hns
  obtain ⟨β0, e0⟩ := begun_spec FUEL 38 hns
  have hi4 : iLim 4 := by unfold iLim; omega
  obtain ⟨ρ', st', e4, β3, w2, w3, w4, w5, w6, w7, w8, w9, w10, w11, w12, g3, rfl, rfl⟩ := for_rng (n := 4) (tg := .name 2) (b := evSs (pr.cl FUEL 39) FUEL l_lawb) (ρ := [some (.fl (ns.map D.int)), some (.loc 0), none, none, none, none, none, none, none, none, none, none, none]) (st := bx β0 [])
    (fun _ ρ s => ∃ β w2 w3 w4 w5 w6 w7 w8 w9 w10 w11 w12 g, ρ = [some (.fl (ns.map D.int)), some (.loc 0), w2, w3, w4, w5, w6, w7, w8, w9, w10, w11, w12] ∧ s = bx β g)
    (by
      rintro i ρ s hi ⟨β, w2, w3, w4, w5, w6, w7, w8, w9, w10, w11, w12, g, rfl, rfl⟩
      obtain ⟨rs, β1, h, e1⟩ := book_spec FUEL 28 okL6 β
      have hb : (bx β1 (g ++ [.lst (rs.map dR)]))[g.length + 2]? = some (.lst (rs.map dR)) := by simp
      obtain ⟨b7, b8, b9, b10, b11, b12, g1, e2⟩ := law_rows FUEL 19 hb h (v0 := some (.fl (ns.map D.int))) (v1 := some (.loc 0)) (v2 := some (.int i)) (v3 := some (.loc (g.length + 2))) (v5 := w5) (v6 := w6) (a7 := w7) (a8 := w8) (a9 := w9) (a10 := w10) (a11 := w11) (a12 := w12)
      have e1 := e1 g
      have hfew := h.few
      have hl := bookT_len h
      have e3 := fun (n : Nat) (st : Sto) (hb : st[n]? = some (.lst (rs.map dR))) => written_rules_spec FUEL 19 hb h
      have e4 := fun st => read_rules_spec FUEL 28 (by decide) h st
      have e5 := fun st => alike_spec FUEL 39 (.str (bookT rs)) st (by simp [depD]) rfl (by simp [sizD])
      have e6 := fun (a b : Nat) (st : Sto) (ha : st[a]? = some (.lst (rs.map dR))) (hb : st[b]? = some (.lst (rs.map dR))) => alike_list FUEL 38 ha hb (by have := h.dep; omega) (pls_pur h.pl) (fun x hx => by
        obtain ⟨r, hr, rfl⟩ := List.mem_map.mp hx
        exact sizD_R (h.ok r hr)) (by simp; omega)
      have e7 := fun (a b : Nat) (st : Sto) (ha : st[a]? = some (.lst (rs.map dR))) (hb : st[b]? = some (.lst (rs.map dR))) => eqL ha hb h.pl h.pl (by have := h.dep; omega)
      have hs : strsD (rs.map fun r => D.str (rowT r)) = some (rs.map rowT) := by
        have := strsD_map (rs.map rowT)
        rwa [List.map_map] at this
      have hsum : ((rs.map rowT).map List.length).sum + (rs.map rowT).length ≤ 100000 := by
        have := rows_sum h.ok
        rw [List.length_map]; omega
      have hj : joinT [10] (rs.map rowT) = bookT rs := rfl
      generalize rs.map rowT = zs at hs hsum hj
      generalize (rs.map fun r => D.str (rowT r)) = ys at hs e2
      have hBl : (rs.map dR).length ≤ 100000 := by simp; omega
      generalize rs.map dR = B at e1 e2 e3 e4 e6 e7 hb hBl
      refine ⟨_, [some (.fl (ns.map D.int)), some (.loc 0), some (.int i), some (.loc (g.length + 2)), some (.loc (g.length + 3)), some (.str (bookT rs)), some (.loc (g.length + (g1.length + 4))), b7, b8, b9, b10, b11, b12], bx β1 (g ++ .lst B :: .lst ys :: (g1 ++ [.lst [], .lst B, .lst B])), rfl, .inl ?_, β1, _, _, _, _, _, _, _, _, _, _, _, _, rfl, rfl⟩
      simp at e2
      simp [l_lawb, e1, l_law2, Nat.add_assoc, e2]
      simp [hs, hsum, hj, e3, e4, e5, e6, -q_loc, e7, hBl, Nat.add_assoc]) ⟨β0, none, none, none, none, none, none, none, none, none, none, none, [], rfl, rfl⟩
  have okN : okBk [] := ⟨by decide, fun r hr => nomatch hr⟩
  have e5 := read_rules_spec FUEL 28 (by decide) okN (bx β3 g3)
  have e6 := written_rules_spec FUEL 19 (rs := []) (n := g3.length + 4) (st := bx β3 (g3 ++ [.lst [], .lst [], .lst []])) (by simp) okN
  have hE : bookT [] = [] := rfl
  rw [hE] at e5 e6
  simp at e5
  refine ⟨[], ?_⟩
  show pr.call FUEL (39 + 1) f_law _ [] = _
  rw [call_eq pr FUEL 39 (fi := ⟨1, 13, b_law⟩) rfl rfl]
  have e4' : loopF (rngW 0 4) (IT.name 2) (evSs (pr.cl FUEL 39) FUEL l_lawb) (rngW 0 4).xs _ _ = _ := e4
  simp [b_law, e0, l_law, hi4, e4', e5, e6, Nat.add_assoc]
  rw [finish_old (oldOk_nil _) rfl]
  rfl
end Law
/-! ### the IR stands in the row; the end (printed by gen.py) -/
namespace Law
open Z PySem L2
def top (i : Nat) : Stmt := PySem.Challenge.pw_treetellers_k21_books_written.main.body.getD i (.Pass ⟨0, 0, 0, 0⟩)
def cc : CC := ⟨[("law", f_law), ("_law_begun", f_law_begun), ("_law_book", f_law_book), ("_law_text", f_law_text), ("_law_alike", f_law_alike), ("written_rules", f_written_rules), ("read_rules", f_read_rules), ("_law_take", f_law_take), ("_law_rule", f_law_rule), ("need_book", f_need_book), ("part_text", f_part_text), ("spot_text", f_spot_text), ("rule_of", f_rule_of), ("_law_pattern", f_law_pattern), ("_law_parts", f_law_parts), ("_law_paths", f_law_paths), ("_law_build", f_law_build), ("is_rule", f_is_rule), ("spot_of", f_spot_of), ("is_spot", f_is_spot), ("is_number", f_is_number), ("pattern_parts", f_pattern_parts), ("build_parts", f_build_parts), ("is_label", f_is_label), ("has_path", f_has_path)],
  [("Signs", c_Signs)],
  [("ANY", g_ANY), ("DO", g_DO), ("FIGURES", g_FIGURES), ("LABELS", g_LABELS), ("LEAF", g_LEAF), ("MOST_BUILD", g_MOST_BUILD), ("MOST_BUILD_DEEP", g_MOST_BUILD_DEEP), ("MOST_KIDS", g_MOST_KIDS), ("MOST_PARTS", g_MOST_PARTS), ("MOST_PATTERN_DEEP", g_MOST_PATTERN_DEEP), ("MOST_RULES", g_MOST_RULES), ("MOST_STATE", g_MOST_STATE)],
  ["bool", "enumerate", "int", "isinstance", "len", "list", "range", "str", "sum", "tuple"],
  [("whole", m_whole), ("part", m_part), ("here", m_here), ("take", m_take), ("do", m_do)],
  ["text", "at", "kind"]⟩
abbrev s_law : Stmt := top 49
abbrev N_law : List Str := ["_law_script", "_law_box", "_law_turn", "_law_book_here", "_law_rows", "_law_text_here", "_law_handed", "_law_state", "_law_spot", "_law_pattern_here", "_law_build_here", "_law_word", "_law_part"]
abbrev P_law : List Str := ["_law_script"]
theorem sc_law : FnScope N_law P_law (defScope s_law) := ⟨rfl, rfl, rfl, by decide +kernel, rfl, by decide +kernel, by decide +kernel⟩
theorem ck_law : chkSs cc N_law (defScope s_law) b_law (defBody s_law) = true := by decide +kernel
abbrev s_law_begun : Stmt := top 35
abbrev N_law_begun : List Str := ["_law_script", "_law_stirred", "_law_cell"]
abbrev P_law_begun : List Str := ["_law_script"]
theorem sc_law_begun : FnScope N_law_begun P_law_begun (defScope s_law_begun) := ⟨rfl, rfl, rfl, by decide +kernel, rfl, by decide +kernel, by decide +kernel⟩
theorem ck_law_begun : chkSs cc N_law_begun (defScope s_law_begun) b_law_begun (defBody s_law_begun) = true := by decide +kernel
abbrev s_law_book : Stmt := top 47
abbrev N_law_book : List Str := ["_law_box", "_law_letters_here", "_law_left", "_law_states", "_law_found", "_law_state", "_law_k"]
abbrev P_law_book : List Str := ["_law_box", "_law_letters_here"]
theorem sc_law_book : FnScope N_law_book P_law_book (defScope s_law_book) := ⟨rfl, rfl, rfl, by decide +kernel, rfl, by decide +kernel, by decide +kernel⟩
theorem ck_law_book : chkSs cc N_law_book (defScope s_law_book) b_law_book (defBody s_law_book) = true := by decide +kernel
abbrev s_law_text : Stmt := top 48
abbrev N_law_text : List Str := ["_law_part", "_law_k", "_law_kid"]
abbrev P_law_text : List Str := ["_law_part"]
theorem sc_law_text : FnScope N_law_text P_law_text (defScope s_law_text) := ⟨rfl, rfl, rfl, by decide +kernel, rfl, by decide +kernel, by decide +kernel⟩
theorem ck_law_text : chkSs cc N_law_text (defScope s_law_text) b_law_text (defBody s_law_text) = true := by decide +kernel
abbrev s_law_alike : Stmt := top 37
abbrev N_law_alike : List Str := ["_law_found", "_law_due", "_law_k"]
abbrev P_law_alike : List Str := ["_law_found", "_law_due"]
theorem sc_law_alike : FnScope N_law_alike P_law_alike (defScope s_law_alike) := ⟨rfl, rfl, rfl, by decide +kernel, rfl, by decide +kernel, by decide +kernel⟩
theorem ck_law_alike : chkSs cc N_law_alike (defScope s_law_alike) b_law_alike (defBody s_law_alike) = true := by decide +kernel
abbrev s_written_rules : Stmt := top 30
abbrev N_written_rules : List Str := ["book", "rows", "state", "spot", "pattern", "build"]
abbrev P_written_rules : List Str := ["book"]
theorem sc_written_rules : FnScope N_written_rules P_written_rules (defScope s_written_rules) := ⟨rfl, rfl, rfl, by decide +kernel, rfl, by decide +kernel, by decide +kernel⟩
theorem ck_written_rules : chkSs cc N_written_rules (defScope s_written_rules) b_written_rules (defBody s_written_rules) = true := by decide +kernel
abbrev s_read_rules : Stmt := top 33
abbrev N_read_rules : List Str := ["text", "rows", "found", "number"]
abbrev P_read_rules : List Str := ["text"]
theorem sc_read_rules : FnScope N_read_rules P_read_rules (defScope s_read_rules) := ⟨rfl, rfl, rfl, by decide +kernel, rfl, by decide +kernel, by decide +kernel⟩
theorem ck_read_rules : chkSs cc N_read_rules (defScope s_read_rules) b_read_rules (defBody s_read_rules) = true := by decide +kernel
abbrev s_law_take : Stmt := top 36
abbrev N_law_take : List Str := ["_law_box", "_law_many", "_law_number"]
abbrev P_law_take : List Str := ["_law_box", "_law_many"]
theorem sc_law_take : FnScope N_law_take P_law_take (defScope s_law_take) := ⟨rfl, rfl, rfl, by decide +kernel, rfl, by decide +kernel, by decide +kernel⟩
theorem ck_law_take : chkSs cc N_law_take (defScope s_law_take) b_law_take (defBody s_law_take) = true := by decide +kernel
abbrev s_law_rule : Stmt := top 46
abbrev N_law_rule : List Str := ["_law_box", "_law_letters_here", "_law_states", "_law_pattern_here", "_law_paths_here", "_law_build_here", "_law_spots"]
abbrev P_law_rule : List Str := ["_law_box", "_law_letters_here", "_law_states"]
theorem sc_law_rule : FnScope N_law_rule P_law_rule (defScope s_law_rule) := ⟨rfl, rfl, rfl, by decide +kernel, rfl, by decide +kernel, by decide +kernel⟩
theorem ck_law_rule : chkSs cc N_law_rule (defScope s_law_rule) b_law_rule (defBody s_law_rule) = true := by decide +kernel
abbrev s_need_book : Stmt := top 24
abbrev N_need_book : List Str := ["book", "number", "rule"]
abbrev P_need_book : List Str := ["book"]
theorem sc_need_book : FnScope N_need_book P_need_book (defScope s_need_book) := ⟨rfl, rfl, rfl, by decide +kernel, rfl, by decide +kernel, by decide +kernel⟩
theorem ck_need_book : chkSs cc N_need_book (defScope s_need_book) b_need_book (defBody s_need_book) = true := by decide +kernel
abbrev s_part_text : Stmt := top 28
abbrev N_part_text : List Str := ["part", "kids", "kid", "k"]
abbrev P_part_text : List Str := ["part"]
theorem sc_part_text : FnScope N_part_text P_part_text (defScope s_part_text) := ⟨rfl, rfl, rfl, by decide +kernel, rfl, by decide +kernel, by decide +kernel⟩
theorem ck_part_text : chkSs cc N_part_text (defScope s_part_text) b_part_text (defBody s_part_text) = true := by decide +kernel
abbrev s_spot_text : Stmt := top 29
abbrev N_spot_text : List Str := ["spot", "part"]
abbrev P_spot_text : List Str := ["spot"]
theorem sc_spot_text : FnScope N_spot_text P_spot_text (defScope s_spot_text) := ⟨rfl, rfl, rfl, by decide +kernel, rfl, by decide +kernel, by decide +kernel⟩
theorem ck_spot_text : chkSs cc N_spot_text (defScope s_spot_text) b_spot_text (defBody s_spot_text) = true := by decide +kernel
abbrev s_rule_of : Stmt := top 32
abbrev N_rule_of : List Str := ["row", "number", "words", "spot"]
abbrev P_rule_of : List Str := ["row", "number"]
theorem sc_rule_of : FnScope N_rule_of P_rule_of (defScope s_rule_of) := ⟨rfl, rfl, rfl, by decide +kernel, rfl, by decide +kernel, by decide +kernel⟩
theorem ck_rule_of : chkSs cc N_rule_of (defScope s_rule_of) b_rule_of (defBody s_rule_of) = true := by decide +kernel
abbrev s_law_pattern : Stmt := top 42
abbrev N_law_pattern : List Str := ["_law_box", "_law_letters_here", "_law_deep", "_law_way", "_law_many", "_law_k"]
abbrev P_law_pattern : List Str := ["_law_box", "_law_letters_here", "_law_deep"]
theorem sc_law_pattern : FnScope N_law_pattern P_law_pattern (defScope s_law_pattern) := ⟨rfl, rfl, rfl, by decide +kernel, rfl, by decide +kernel, by decide +kernel⟩
theorem ck_law_pattern : chkSs cc N_law_pattern (defScope s_law_pattern) b_law_pattern (defBody s_law_pattern) = true := by decide +kernel
abbrev s_law_parts : Stmt := top 45
abbrev N_law_parts : List Str := ["_law_part", "_law_kid"]
abbrev P_law_parts : List Str := ["_law_part"]
theorem sc_law_parts : FnScope N_law_parts P_law_parts (defScope s_law_parts) := ⟨rfl, rfl, rfl, by decide +kernel, rfl, by decide +kernel, by decide +kernel⟩
theorem ck_law_parts : chkSs cc N_law_parts (defScope s_law_parts) b_law_parts (defBody s_law_parts) = true := by decide +kernel
abbrev s_law_paths : Stmt := top 43
abbrev N_law_paths : List Str := ["_law_pattern_here", "_law_found", "_law_k", "_law_j"]
abbrev P_law_paths : List Str := ["_law_pattern_here"]
theorem sc_law_paths : FnScope N_law_paths P_law_paths (defScope s_law_paths) := ⟨rfl, rfl, rfl, by decide +kernel, rfl, by decide +kernel, by decide +kernel⟩
theorem ck_law_paths : chkSs cc N_law_paths (defScope s_law_paths) b_law_paths (defBody s_law_paths) = true := by decide +kernel
abbrev s_law_build : Stmt := top 44
abbrev N_law_build : List Str := ["_law_box", "_law_letters_here", "_law_states", "_law_paths_here", "_law_deep", "_law_many", "_law_kids", "_law_k"]
abbrev P_law_build : List Str := ["_law_box", "_law_letters_here", "_law_states", "_law_paths_here", "_law_deep"]
theorem sc_law_build : FnScope N_law_build P_law_build (defScope s_law_build) := ⟨rfl, rfl, rfl, by decide +kernel, rfl, by decide +kernel, by decide +kernel⟩
theorem ck_law_build : chkSs cc N_law_build (defScope s_law_build) b_law_build (defBody s_law_build) = true := by decide +kernel
abbrev s_is_rule : Stmt := top 23
abbrev N_is_rule : List Str := ["rule"]
abbrev P_is_rule : List Str := ["rule"]
theorem sc_is_rule : FnScope N_is_rule P_is_rule (defScope s_is_rule) := ⟨rfl, rfl, rfl, by decide +kernel, rfl, by decide +kernel, by decide +kernel⟩
theorem ck_is_rule : chkSs cc N_is_rule (defScope s_is_rule) b_is_rule (defBody s_is_rule) = true := by decide +kernel
abbrev s_spot_of : Stmt := top 31
abbrev N_spot_of : List Str := ["word", "number", "parts"]
abbrev P_spot_of : List Str := ["word", "number"]
theorem sc_spot_of : FnScope N_spot_of P_spot_of (defScope s_spot_of) := ⟨rfl, rfl, rfl, by decide +kernel, rfl, by decide +kernel, by decide +kernel⟩
theorem ck_spot_of : chkSs cc N_spot_of (defScope s_spot_of) b_spot_of (defBody s_spot_of) = true := by decide +kernel
abbrev s_Signs_init : Stmt := inClass (top 27) 0
abbrev N_Signs_init : List Str := ["self", "text", "kind"]
abbrev P_Signs_init : List Str := ["self", "text", "kind"]
theorem sc_Signs_init : FnScope N_Signs_init P_Signs_init (defScope s_Signs_init) := ⟨rfl, rfl, rfl, by decide +kernel, rfl, by decide +kernel, by decide +kernel⟩
theorem ck_Signs_init : chkSs cc N_Signs_init (defScope s_Signs_init) b_Signs_init (defBody s_Signs_init) = true := by decide +kernel
abbrev s_Signs_whole : Stmt := inClass (top 27) 5
abbrev N_Signs_whole : List Str := ["self", "found"]
abbrev P_Signs_whole : List Str := ["self"]
theorem sc_Signs_whole : FnScope N_Signs_whole P_Signs_whole (defScope s_Signs_whole) := ⟨rfl, rfl, rfl, by decide +kernel, rfl, by decide +kernel, by decide +kernel⟩
theorem ck_Signs_whole : chkSs cc N_Signs_whole (defScope s_Signs_whole) b_Signs_whole (defBody s_Signs_whole) = true := by decide +kernel
abbrev s_is_spot : Stmt := top 22
abbrev N_is_spot : List Str := ["spot"]
abbrev P_is_spot : List Str := ["spot"]
theorem sc_is_spot : FnScope N_is_spot P_is_spot (defScope s_is_spot) := ⟨rfl, rfl, rfl, by decide +kernel, rfl, by decide +kernel, by decide +kernel⟩
theorem ck_is_spot : chkSs cc N_is_spot (defScope s_is_spot) b_is_spot (defBody s_is_spot) = true := by decide +kernel
abbrev s_is_number : Stmt := top 18
abbrev N_is_number : List Str := ["part", "low", "high"]
abbrev P_is_number : List Str := ["part", "low", "high"]
theorem sc_is_number : FnScope N_is_number P_is_number (defScope s_is_number) := ⟨rfl, rfl, rfl, by decide +kernel, rfl, by decide +kernel, by decide +kernel⟩
theorem ck_is_number : chkSs cc N_is_number (defScope s_is_number) b_is_number (defBody s_is_number) = true := by decide +kernel
abbrev s_pattern_parts : Stmt := top 19
abbrev N_pattern_parts : List Str := ["pattern", "deep", "kid"]
abbrev P_pattern_parts : List Str := ["pattern", "deep"]
theorem sc_pattern_parts : FnScope N_pattern_parts P_pattern_parts (defScope s_pattern_parts) := ⟨rfl, rfl, rfl, by decide +kernel, rfl, by decide +kernel, by decide +kernel⟩
theorem ck_pattern_parts : chkSs cc N_pattern_parts (defScope s_pattern_parts) b_pattern_parts (defBody s_pattern_parts) = true := by decide +kernel
abbrev s_build_parts : Stmt := top 21
abbrev N_build_parts : List Str := ["build", "pattern", "deep", "good", "kid"]
abbrev P_build_parts : List Str := ["build", "pattern", "deep"]
theorem sc_build_parts : FnScope N_build_parts P_build_parts (defScope s_build_parts) := ⟨rfl, rfl, rfl, by decide +kernel, rfl, by decide +kernel, by decide +kernel⟩
theorem ck_build_parts : chkSs cc N_build_parts (defScope s_build_parts) b_build_parts (defBody s_build_parts) = true := by decide +kernel
abbrev s_Signs_part : Stmt := inClass (top 27) 3
abbrev N_Signs_part : List Str := ["self", "label", "kids"]
abbrev P_Signs_part : List Str := ["self"]
theorem sc_Signs_part : FnScope N_Signs_part P_Signs_part (defScope s_Signs_part) := ⟨rfl, rfl, rfl, by decide +kernel, rfl, by decide +kernel, by decide +kernel⟩
theorem ck_Signs_part : chkSs cc N_Signs_part (defScope s_Signs_part) b_Signs_part (defBody s_Signs_part) = true := by decide +kernel
abbrev s_is_label : Stmt := top 7
abbrev N_is_label : List Str := ["part"]
abbrev P_is_label : List Str := ["part"]
theorem sc_is_label : FnScope N_is_label P_is_label (defScope s_is_label) := ⟨rfl, rfl, rfl, by decide +kernel, rfl, by decide +kernel, by decide +kernel⟩
theorem ck_is_label : chkSs cc N_is_label (defScope s_is_label) b_is_label (defBody s_is_label) = true := by decide +kernel
abbrev s_has_path : Stmt := top 20
abbrev N_has_path : List Str := ["pattern", "path", "k"]
abbrev P_has_path : List Str := ["pattern", "path"]
theorem sc_has_path : FnScope N_has_path P_has_path (defScope s_has_path) := ⟨rfl, rfl, rfl, by decide +kernel, rfl, by decide +kernel, by decide +kernel⟩
theorem ck_has_path : chkSs cc N_has_path (defScope s_has_path) b_has_path (defBody s_has_path) = true := by decide +kernel
abbrev s_Signs_here : Stmt := inClass (top 27) 1
abbrev N_Signs_here : List Str := ["self"]
abbrev P_Signs_here : List Str := ["self"]
theorem sc_Signs_here : FnScope N_Signs_here P_Signs_here (defScope s_Signs_here) := ⟨rfl, rfl, rfl, by decide +kernel, rfl, by decide +kernel, by decide +kernel⟩
theorem ck_Signs_here : chkSs cc N_Signs_here (defScope s_Signs_here) b_Signs_here (defBody s_Signs_here) = true := by decide +kernel
abbrev s_Signs_take : Stmt := inClass (top 27) 2
abbrev N_Signs_take : List Str := ["self", "signs", "sign"]
abbrev P_Signs_take : List Str := ["self", "signs"]
theorem sc_Signs_take : FnScope N_Signs_take P_Signs_take (defScope s_Signs_take) := ⟨rfl, rfl, rfl, by decide +kernel, rfl, by decide +kernel, by decide +kernel⟩
theorem ck_Signs_take : chkSs cc N_Signs_take (defScope s_Signs_take) b_Signs_take (defBody s_Signs_take) = true := by decide +kernel
abbrev s_Signs_do : Stmt := inClass (top 27) 4
abbrev N_Signs_do : List Str := ["self", "state", "path"]
abbrev P_Signs_do : List Str := ["self"]
theorem sc_Signs_do : FnScope N_Signs_do P_Signs_do (defScope s_Signs_do) := ⟨rfl, rfl, rfl, by decide +kernel, rfl, by decide +kernel, by decide +kernel⟩
theorem ck_Signs_do : chkSs cc N_Signs_do (defScope s_Signs_do) b_Signs_do (defBody s_Signs_do) = true := by decide +kernel
theorem all_mk {l : PySem.W.OpenLaw} {w : World} {K : PySem.W.Frag} {h : Heap} {mg : Str → Option Value} {fa f0 f1 f2 f3 f4 f5 f6 f7 f8 f9 f10 f11 f12 f13 f14 f15 f16 f17 f18 f19 f20 f21 f22 f23 f24 f25 f26 f27 f28 f29 f30 C0 : Addr} (X : K.In h) (G : h.Ns mainGlobals mg) (hfa : mg "law" = some (.ref fa))
  {od0 an0 od1 an1 od2 an2 od3 an3 od4 an4 od5 an5 od6 an6 od7 an7 od8 an8 od9 an9 od10 an10 od11 an11 od12 an12 od13 an13 od14 an14 od15 an15 od16 an16 od17 an17 od18 an18 od19 an19 od20 an20 od21 an21 od22 an22 od23 an23 od24 an24 od25 an25 od26 an26 od27 an27 od28 an28 od29 an29 od30 an30 : Option Addr} {sl0 sl1 sl2 sl3 sl4 sl5 sl6 sl7 sl8 sl9 sl10 sl11 sl12 sl13 sl14 sl15 sl16 sl17 sl18 sl19 sl20 sl21 sl22 sl23 sl24 sl25 sl26 sl27 sl28 sl29 sl30 : Array (Option Value)} {oc0 kV0 dc0 pm0 cd0 ct0 oc1 kV1 dc1 pm1 cd1 ct1 oc2 kV2 dc2 pm2 cd2 ct2 oc3 kV3 dc3 pm3 cd3 ct3 oc4 kV4 dc4 pm4 cd4 ct4 oc5 kV5 dc5 pm5 cd5 ct5 oc6 kV6 dc6 pm6 cd6 ct6 oc7 kV7 dc7 pm7 cd7 ct7 oc8 kV8 dc8 pm8 cd8 ct8 oc9 kV9 dc9 pm9 cd9 ct9 oc10 kV10 dc10 pm10 cd10 ct10 oc11 kV11 dc11 pm11 cd11 ct11 oc12 kV12 dc12 pm12 cd12 ct12 oc13 kV13 dc13 pm13 cd13 ct13 oc14 kV14 dc14 pm14 cd14 ct14 oc15 kV15 dc15 pm15 cd15 ct15 oc16 kV16 dc16 pm16 cd16 ct16 oc17 kV17 dc17 pm17 cd17 ct17 oc18 kV18 dc18 pm18 cd18 ct18 oc19 kV19 dc19 pm19 cd19 ct19 oc20 kV20 dc20 pm20 cd20 ct20 oc21 kV21 dc21 pm21 cd21 ct21 oc22 kV22 dc22 pm22 cd22 ct22 oc23 kV23 dc23 pm23 cd23 ct23 oc24 kV24 dc24 pm24 cd24 ct24 oc25 kV25 dc25 pm25 cd25 ct25 oc26 kV26 dc26 pm26 cd26 ct26 oc27 kV27 dc27 pm27 cd27 ct27 oc28 kV28 dc28 pm28 cd28 ct28 oc29 kV29 dc29 pm29 cd29 ct29 oc30 kV30 dc30 pm30 cd30 ct30 : Value} {t0 : Tok} {T0 : Addr} {d0 : Option Addr} {nn0 : Nat} {ss0 : Array (Option Value)} {t1 : Tok} {t2 : Tok} {t3 : Tok} {t4 : Tok} {T4 : Addr} {d4 : Option Addr} {nn4 : Nat} {ss4 : Array (Option Value)} {t5 : Tok} {t6 : Tok} {t7 : Tok} {t8 : Tok} {t9 : Tok} {t10 : Tok} {t11 : Tok}
  (aC0 : PySem.W.nsIn K mainGlobals "Signs" = some (some (.ref C0)))
  (pg0 : PySem.W.plainGet K C0 Str.empty = true)
  (hd0 : PySem.W.hasDictIn K C0 = true)
  (po0 : PySem.W.plainOver K C0 = true)
  (sa0 : PySem.W.findIn K (.ref C0) "__setattr__" = some (some (.builtin "object.__setattr__")))
  (mk0 : PySem.W.makesIn K C0 = true)
  (kc0 : PySem.W.keepIn K (.ref C0) = true)
  (n0_0 : PySem.W.findIn K (.ref C0) "text" = some none)
  (n0_1 : PySem.W.findIn K (.ref C0) "at" = some none)
  (n0_2 : PySem.W.findIn K (.ref C0) "kind" = some none)
  (a0 : PySem.W.nsIn K mainGlobals "law" = some (some (.ref f0)))
  (l0 : K.lookup f0 = some ⟨oc0, od0, .func (PySem.W.fnOf "law" "law" (defArgs s_law) (defBody s_law) (defScope s_law) .none kV0 dc0 pm0 an0 cd0 ct0), sl0⟩)
  (c0 : PySem.W.codeIn K cd0 "law" = true)
  (k0 : PySem.W.keepIn K (.ref f0) = true)
  (a1 : PySem.W.nsIn K mainGlobals "_law_begun" = some (some (.ref f1)))
  (l1 : K.lookup f1 = some ⟨oc1, od1, .func (PySem.W.fnOf "_law_begun" "_law_begun" (defArgs s_law_begun) (defBody s_law_begun) (defScope s_law_begun) .none kV1 dc1 pm1 an1 cd1 ct1), sl1⟩)
  (c1 : PySem.W.codeIn K cd1 "_law_begun" = true)
  (k1 : PySem.W.keepIn K (.ref f1) = true)
  (a2 : PySem.W.nsIn K mainGlobals "_law_book" = some (some (.ref f2)))
  (l2 : K.lookup f2 = some ⟨oc2, od2, .func (PySem.W.fnOf "_law_book" "_law_book" (defArgs s_law_book) (defBody s_law_book) (defScope s_law_book) .none kV2 dc2 pm2 an2 cd2 ct2), sl2⟩)
  (c2 : PySem.W.codeIn K cd2 "_law_book" = true)
  (k2 : PySem.W.keepIn K (.ref f2) = true)
  (a3 : PySem.W.nsIn K mainGlobals "_law_text" = some (some (.ref f3)))
  (l3 : K.lookup f3 = some ⟨oc3, od3, .func (PySem.W.fnOf "_law_text" "_law_text" (defArgs s_law_text) (defBody s_law_text) (defScope s_law_text) .none kV3 dc3 pm3 an3 cd3 ct3), sl3⟩)
  (c3 : PySem.W.codeIn K cd3 "_law_text" = true)
  (k3 : PySem.W.keepIn K (.ref f3) = true)
  (a4 : PySem.W.nsIn K mainGlobals "_law_alike" = some (some (.ref f4)))
  (l4 : K.lookup f4 = some ⟨oc4, od4, .func (PySem.W.fnOf "_law_alike" "_law_alike" (defArgs s_law_alike) (defBody s_law_alike) (defScope s_law_alike) .none kV4 dc4 pm4 an4 cd4 ct4), sl4⟩)
  (c4 : PySem.W.codeIn K cd4 "_law_alike" = true)
  (k4 : PySem.W.keepIn K (.ref f4) = true)
  (a5 : PySem.W.nsIn K mainGlobals "written_rules" = some (some (.ref f5)))
  (l5 : K.lookup f5 = some ⟨oc5, od5, .func (PySem.W.fnOf "written_rules" "written_rules" (defArgs s_written_rules) (defBody s_written_rules) (defScope s_written_rules) .none kV5 dc5 pm5 an5 cd5 ct5), sl5⟩)
  (c5 : PySem.W.codeIn K cd5 "written_rules" = true)
  (k5 : PySem.W.keepIn K (.ref f5) = true)
  (a6 : PySem.W.nsIn K mainGlobals "read_rules" = some (some (.ref f6)))
  (l6 : K.lookup f6 = some ⟨oc6, od6, .func (PySem.W.fnOf "read_rules" "read_rules" (defArgs s_read_rules) (defBody s_read_rules) (defScope s_read_rules) .none kV6 dc6 pm6 an6 cd6 ct6), sl6⟩)
  (c6 : PySem.W.codeIn K cd6 "read_rules" = true)
  (k6 : PySem.W.keepIn K (.ref f6) = true)
  (a7 : PySem.W.nsIn K mainGlobals "_law_take" = some (some (.ref f7)))
  (l7 : K.lookup f7 = some ⟨oc7, od7, .func (PySem.W.fnOf "_law_take" "_law_take" (defArgs s_law_take) (defBody s_law_take) (defScope s_law_take) .none kV7 dc7 pm7 an7 cd7 ct7), sl7⟩)
  (c7 : PySem.W.codeIn K cd7 "_law_take" = true)
  (k7 : PySem.W.keepIn K (.ref f7) = true)
  (a8 : PySem.W.nsIn K mainGlobals "_law_rule" = some (some (.ref f8)))
  (l8 : K.lookup f8 = some ⟨oc8, od8, .func (PySem.W.fnOf "_law_rule" "_law_rule" (defArgs s_law_rule) (defBody s_law_rule) (defScope s_law_rule) .none kV8 dc8 pm8 an8 cd8 ct8), sl8⟩)
  (c8 : PySem.W.codeIn K cd8 "_law_rule" = true)
  (k8 : PySem.W.keepIn K (.ref f8) = true)
  (a9 : PySem.W.nsIn K mainGlobals "need_book" = some (some (.ref f9)))
  (l9 : K.lookup f9 = some ⟨oc9, od9, .func (PySem.W.fnOf "need_book" "need_book" (defArgs s_need_book) (defBody s_need_book) (defScope s_need_book) .none kV9 dc9 pm9 an9 cd9 ct9), sl9⟩)
  (c9 : PySem.W.codeIn K cd9 "need_book" = true)
  (k9 : PySem.W.keepIn K (.ref f9) = true)
  (a10 : PySem.W.nsIn K mainGlobals "part_text" = some (some (.ref f10)))
  (l10 : K.lookup f10 = some ⟨oc10, od10, .func (PySem.W.fnOf "part_text" "part_text" (defArgs s_part_text) (defBody s_part_text) (defScope s_part_text) .none kV10 dc10 pm10 an10 cd10 ct10), sl10⟩)
  (c10 : PySem.W.codeIn K cd10 "part_text" = true)
  (k10 : PySem.W.keepIn K (.ref f10) = true)
  (a11 : PySem.W.nsIn K mainGlobals "spot_text" = some (some (.ref f11)))
  (l11 : K.lookup f11 = some ⟨oc11, od11, .func (PySem.W.fnOf "spot_text" "spot_text" (defArgs s_spot_text) (defBody s_spot_text) (defScope s_spot_text) .none kV11 dc11 pm11 an11 cd11 ct11), sl11⟩)
  (c11 : PySem.W.codeIn K cd11 "spot_text" = true)
  (k11 : PySem.W.keepIn K (.ref f11) = true)
  (a12 : PySem.W.nsIn K mainGlobals "rule_of" = some (some (.ref f12)))
  (l12 : K.lookup f12 = some ⟨oc12, od12, .func (PySem.W.fnOf "rule_of" "rule_of" (defArgs s_rule_of) (defBody s_rule_of) (defScope s_rule_of) .none kV12 dc12 pm12 an12 cd12 ct12), sl12⟩)
  (c12 : PySem.W.codeIn K cd12 "rule_of" = true)
  (k12 : PySem.W.keepIn K (.ref f12) = true)
  (a13 : PySem.W.nsIn K mainGlobals "_law_pattern" = some (some (.ref f13)))
  (l13 : K.lookup f13 = some ⟨oc13, od13, .func (PySem.W.fnOf "_law_pattern" "_law_pattern" (defArgs s_law_pattern) (defBody s_law_pattern) (defScope s_law_pattern) .none kV13 dc13 pm13 an13 cd13 ct13), sl13⟩)
  (c13 : PySem.W.codeIn K cd13 "_law_pattern" = true)
  (k13 : PySem.W.keepIn K (.ref f13) = true)
  (a14 : PySem.W.nsIn K mainGlobals "_law_parts" = some (some (.ref f14)))
  (l14 : K.lookup f14 = some ⟨oc14, od14, .func (PySem.W.fnOf "_law_parts" "_law_parts" (defArgs s_law_parts) (defBody s_law_parts) (defScope s_law_parts) .none kV14 dc14 pm14 an14 cd14 ct14), sl14⟩)
  (c14 : PySem.W.codeIn K cd14 "_law_parts" = true)
  (k14 : PySem.W.keepIn K (.ref f14) = true)
  (a15 : PySem.W.nsIn K mainGlobals "_law_paths" = some (some (.ref f15)))
  (l15 : K.lookup f15 = some ⟨oc15, od15, .func (PySem.W.fnOf "_law_paths" "_law_paths" (defArgs s_law_paths) (defBody s_law_paths) (defScope s_law_paths) .none kV15 dc15 pm15 an15 cd15 ct15), sl15⟩)
  (c15 : PySem.W.codeIn K cd15 "_law_paths" = true)
  (k15 : PySem.W.keepIn K (.ref f15) = true)
  (a16 : PySem.W.nsIn K mainGlobals "_law_build" = some (some (.ref f16)))
  (l16 : K.lookup f16 = some ⟨oc16, od16, .func (PySem.W.fnOf "_law_build" "_law_build" (defArgs s_law_build) (defBody s_law_build) (defScope s_law_build) .none kV16 dc16 pm16 an16 cd16 ct16), sl16⟩)
  (c16 : PySem.W.codeIn K cd16 "_law_build" = true)
  (k16 : PySem.W.keepIn K (.ref f16) = true)
  (a17 : PySem.W.nsIn K mainGlobals "is_rule" = some (some (.ref f17)))
  (l17 : K.lookup f17 = some ⟨oc17, od17, .func (PySem.W.fnOf "is_rule" "is_rule" (defArgs s_is_rule) (defBody s_is_rule) (defScope s_is_rule) .none kV17 dc17 pm17 an17 cd17 ct17), sl17⟩)
  (c17 : PySem.W.codeIn K cd17 "is_rule" = true)
  (k17 : PySem.W.keepIn K (.ref f17) = true)
  (a18 : PySem.W.nsIn K mainGlobals "spot_of" = some (some (.ref f18)))
  (l18 : K.lookup f18 = some ⟨oc18, od18, .func (PySem.W.fnOf "spot_of" "spot_of" (defArgs s_spot_of) (defBody s_spot_of) (defScope s_spot_of) .none kV18 dc18 pm18 an18 cd18 ct18), sl18⟩)
  (c18 : PySem.W.codeIn K cd18 "spot_of" = true)
  (k18 : PySem.W.keepIn K (.ref f18) = true)
  (a19 : PySem.W.findIn K (.ref C0) "__init__" = some (some (.ref f19)))
  (i19 : PySem.W.isFn K (.ref f19) = true)
  (l19 : K.lookup f19 = some ⟨oc19, od19, .func (PySem.W.fnOf "__init__" "Signs.__init__" (defArgs s_Signs_init) (defBody s_Signs_init) (defScope s_Signs_init) .none kV19 dc19 pm19 an19 cd19 ct19), sl19⟩)
  (c19 : PySem.W.codeIn K cd19 "Signs.__init__" = true)
  (k19 : PySem.W.keepIn K (.ref f19) = true)
  (a20 : PySem.W.findIn K (.ref C0) "whole" = some (some (.ref f20)))
  (i20 : PySem.W.isFn K (.ref f20) = true)
  (l20 : K.lookup f20 = some ⟨oc20, od20, .func (PySem.W.fnOf "whole" "Signs.whole" (defArgs s_Signs_whole) (defBody s_Signs_whole) (defScope s_Signs_whole) .none kV20 dc20 pm20 an20 cd20 ct20), sl20⟩)
  (c20 : PySem.W.codeIn K cd20 "Signs.whole" = true)
  (k20 : PySem.W.keepIn K (.ref f20) = true)
  (a21 : PySem.W.nsIn K mainGlobals "is_spot" = some (some (.ref f21)))
  (l21 : K.lookup f21 = some ⟨oc21, od21, .func (PySem.W.fnOf "is_spot" "is_spot" (defArgs s_is_spot) (defBody s_is_spot) (defScope s_is_spot) .none kV21 dc21 pm21 an21 cd21 ct21), sl21⟩)
  (c21 : PySem.W.codeIn K cd21 "is_spot" = true)
  (k21 : PySem.W.keepIn K (.ref f21) = true)
  (a22 : PySem.W.nsIn K mainGlobals "is_number" = some (some (.ref f22)))
  (l22 : K.lookup f22 = some ⟨oc22, od22, .func (PySem.W.fnOf "is_number" "is_number" (defArgs s_is_number) (defBody s_is_number) (defScope s_is_number) .none kV22 dc22 pm22 an22 cd22 ct22), sl22⟩)
  (c22 : PySem.W.codeIn K cd22 "is_number" = true)
  (k22 : PySem.W.keepIn K (.ref f22) = true)
  (a23 : PySem.W.nsIn K mainGlobals "pattern_parts" = some (some (.ref f23)))
  (l23 : K.lookup f23 = some ⟨oc23, od23, .func (PySem.W.fnOf "pattern_parts" "pattern_parts" (defArgs s_pattern_parts) (defBody s_pattern_parts) (defScope s_pattern_parts) .none kV23 dc23 pm23 an23 cd23 ct23), sl23⟩)
  (c23 : PySem.W.codeIn K cd23 "pattern_parts" = true)
  (k23 : PySem.W.keepIn K (.ref f23) = true)
  (a24 : PySem.W.nsIn K mainGlobals "build_parts" = some (some (.ref f24)))
  (l24 : K.lookup f24 = some ⟨oc24, od24, .func (PySem.W.fnOf "build_parts" "build_parts" (defArgs s_build_parts) (defBody s_build_parts) (defScope s_build_parts) .none kV24 dc24 pm24 an24 cd24 ct24), sl24⟩)
  (c24 : PySem.W.codeIn K cd24 "build_parts" = true)
  (k24 : PySem.W.keepIn K (.ref f24) = true)
  (a25 : PySem.W.findIn K (.ref C0) "part" = some (some (.ref f25)))
  (i25 : PySem.W.isFn K (.ref f25) = true)
  (l25 : K.lookup f25 = some ⟨oc25, od25, .func (PySem.W.fnOf "part" "Signs.part" (defArgs s_Signs_part) (defBody s_Signs_part) (defScope s_Signs_part) .none kV25 dc25 pm25 an25 cd25 ct25), sl25⟩)
  (c25 : PySem.W.codeIn K cd25 "Signs.part" = true)
  (k25 : PySem.W.keepIn K (.ref f25) = true)
  (a26 : PySem.W.nsIn K mainGlobals "is_label" = some (some (.ref f26)))
  (l26 : K.lookup f26 = some ⟨oc26, od26, .func (PySem.W.fnOf "is_label" "is_label" (defArgs s_is_label) (defBody s_is_label) (defScope s_is_label) .none kV26 dc26 pm26 an26 cd26 ct26), sl26⟩)
  (c26 : PySem.W.codeIn K cd26 "is_label" = true)
  (k26 : PySem.W.keepIn K (.ref f26) = true)
  (a27 : PySem.W.nsIn K mainGlobals "has_path" = some (some (.ref f27)))
  (l27 : K.lookup f27 = some ⟨oc27, od27, .func (PySem.W.fnOf "has_path" "has_path" (defArgs s_has_path) (defBody s_has_path) (defScope s_has_path) .none kV27 dc27 pm27 an27 cd27 ct27), sl27⟩)
  (c27 : PySem.W.codeIn K cd27 "has_path" = true)
  (k27 : PySem.W.keepIn K (.ref f27) = true)
  (a28 : PySem.W.findIn K (.ref C0) "here" = some (some (.ref f28)))
  (i28 : PySem.W.isFn K (.ref f28) = true)
  (l28 : K.lookup f28 = some ⟨oc28, od28, .func (PySem.W.fnOf "here" "Signs.here" (defArgs s_Signs_here) (defBody s_Signs_here) (defScope s_Signs_here) .none kV28 dc28 pm28 an28 cd28 ct28), sl28⟩)
  (c28 : PySem.W.codeIn K cd28 "Signs.here" = true)
  (k28 : PySem.W.keepIn K (.ref f28) = true)
  (a29 : PySem.W.findIn K (.ref C0) "take" = some (some (.ref f29)))
  (i29 : PySem.W.isFn K (.ref f29) = true)
  (l29 : K.lookup f29 = some ⟨oc29, od29, .func (PySem.W.fnOf "take" "Signs.take" (defArgs s_Signs_take) (defBody s_Signs_take) (defScope s_Signs_take) .none kV29 dc29 pm29 an29 cd29 ct29), sl29⟩)
  (c29 : PySem.W.codeIn K cd29 "Signs.take" = true)
  (k29 : PySem.W.keepIn K (.ref f29) = true)
  (a30 : PySem.W.findIn K (.ref C0) "do" = some (some (.ref f30)))
  (i30 : PySem.W.isFn K (.ref f30) = true)
  (l30 : K.lookup f30 = some ⟨oc30, od30, .func (PySem.W.fnOf "do" "Signs.do" (defArgs s_Signs_do) (defBody s_Signs_do) (defScope s_Signs_do) .none kV30 dc30 pm30 an30 cd30 ct30), sl30⟩)
  (c30 : PySem.W.codeIn K cd30 "Signs.do" = true)
  (k30 : PySem.W.keepIn K (.ref f30) = true)
  (g0 : PySem.W.nsIn K mainGlobals "ANY" = some (some (.ref T0)))
  (h0 : K.lookup T0 = some ⟨.type "tuple", d0, .seq #[.str "any" t0] nn0, ss0⟩)
  (g1 : PySem.W.nsIn K mainGlobals "DO" = some (some (.str "do" t1)))
  (g2 : PySem.W.nsIn K mainGlobals "FIGURES" = some (some (.str "0123456789" t2)))
  (g3 : PySem.W.nsIn K mainGlobals "LABELS" = some (some (.str "abcdef" t3)))
  (g4 : PySem.W.nsIn K mainGlobals "LEAF" = some (some (.ref T4)))
  (h4 : K.lookup T4 = some ⟨.type "tuple", d4, .seq #[.str "leaf" t4] nn4, ss4⟩)
  (g5 : PySem.W.nsIn K mainGlobals "MOST_BUILD" = some (some (.int 12 t5)))
  (g6 : PySem.W.nsIn K mainGlobals "MOST_BUILD_DEEP" = some (some (.int 4 t6)))
  (g7 : PySem.W.nsIn K mainGlobals "MOST_KIDS" = some (some (.int 3 t7)))
  (g8 : PySem.W.nsIn K mainGlobals "MOST_PARTS" = some (some (.int 7 t8)))
  (g9 : PySem.W.nsIn K mainGlobals "MOST_PATTERN_DEEP" = some (some (.int 3 t9)))
  (g10 : PySem.W.nsIn K mainGlobals "MOST_RULES" = some (some (.int 16 t10)))
  (g11 : PySem.W.nsIn K mainGlobals "MOST_STATE" = some (some (.int 5 t11)))
  (z0 : PySem.W.nsIn K mainGlobals "bool" = some none)
  (z1 : PySem.W.nsIn K mainGlobals "enumerate" = some none)
  (z2 : PySem.W.nsIn K mainGlobals "int" = some none)
  (z3 : PySem.W.nsIn K mainGlobals "isinstance" = some none)
  (z4 : PySem.W.nsIn K mainGlobals "len" = some none)
  (z5 : PySem.W.nsIn K mainGlobals "list" = some none)
  (z6 : PySem.W.nsIn K mainGlobals "range" = some none)
  (z7 : PySem.W.nsIn K mainGlobals "str" = some none)
  (z8 : PySem.W.nsIn K mainGlobals "sum" = some none)
  (z9 : PySem.W.nsIn K mainGlobals "tuple" = some none)
  (kmax F : Nat) (hev : ∀ ns : List Int, ns.length ≤ 63 → ∃ st, pr.call F kmax f_law [.fl (ns.map D.int)] [] = .ok (.bl true) st) :
  ∃ fd : FuncData, (∀ (s : Shared) (v : Value), BindsTo s fd ⟨[v], []⟩ [("_law_script", v)]) ∧ ∀ base : Heap, K.In base → base.Ns mainGlobals mg → FnOk l.prog w K mg base (L2.CX l.prog w) (2 * kmax) fa fd ["_law_script"] (Z.spLaw K) := by
  have e := hfa.symm.trans (PySem.W.mg_of X G a0)
  cases e
  have F0 := fun_mk (st := s_law) l0 c0 k0
  have b0 := F0.binds (ps := P_law) fun _ _ _ _ _ _ us hl => match us, hl with | [_], _ => rfl
  have F1 := fun_mk (st := s_law_begun) l1 c1 k1
  have b1 := F1.binds (ps := P_law_begun) fun _ _ _ _ _ _ us hl => match us, hl with | [_], _ => rfl
  have F2 := fun_mk (st := s_law_book) l2 c2 k2
  have b2 := F2.binds (ps := P_law_book) fun _ _ _ _ _ _ us hl => match us, hl with | [_, _], _ => rfl
  have F3 := fun_mk (st := s_law_text) l3 c3 k3
  have b3 := F3.binds (ps := P_law_text) fun _ _ _ _ _ _ us hl => match us, hl with | [_], _ => rfl
  have F4 := fun_mk (st := s_law_alike) l4 c4 k4
  have b4 := F4.binds (ps := P_law_alike) fun _ _ _ _ _ _ us hl => match us, hl with | [_, _], _ => rfl
  have F5 := fun_mk (st := s_written_rules) l5 c5 k5
  have b5 := F5.binds (ps := P_written_rules) fun _ _ _ _ _ _ us hl => match us, hl with | [_], _ => rfl
  have F6 := fun_mk (st := s_read_rules) l6 c6 k6
  have b6 := F6.binds (ps := P_read_rules) fun _ _ _ _ _ _ us hl => match us, hl with | [_], _ => rfl
  have F7 := fun_mk (st := s_law_take) l7 c7 k7
  have b7 := F7.binds (ps := P_law_take) fun _ _ _ _ _ _ us hl => match us, hl with | [_, _], _ => rfl
  have F8 := fun_mk (st := s_law_rule) l8 c8 k8
  have b8 := F8.binds (ps := P_law_rule) fun _ _ _ _ _ _ us hl => match us, hl with | [_, _, _], _ => rfl
  have F9 := fun_mk (st := s_need_book) l9 c9 k9
  have b9 := F9.binds (ps := P_need_book) fun _ _ _ _ _ _ us hl => match us, hl with | [_], _ => rfl
  have F10 := fun_mk (st := s_part_text) l10 c10 k10
  have b10 := F10.binds (ps := P_part_text) fun _ _ _ _ _ _ us hl => match us, hl with | [_], _ => rfl
  have F11 := fun_mk (st := s_spot_text) l11 c11 k11
  have b11 := F11.binds (ps := P_spot_text) fun _ _ _ _ _ _ us hl => match us, hl with | [_], _ => rfl
  have F12 := fun_mk (st := s_rule_of) l12 c12 k12
  have b12 := F12.binds (ps := P_rule_of) fun _ _ _ _ _ _ us hl => match us, hl with | [_, _], _ => rfl
  have F13 := fun_mk (st := s_law_pattern) l13 c13 k13
  have b13 := F13.binds (ps := P_law_pattern) fun _ _ _ _ _ _ us hl => match us, hl with | [_, _, _], _ => rfl
  have F14 := fun_mk (st := s_law_parts) l14 c14 k14
  have b14 := F14.binds (ps := P_law_parts) fun _ _ _ _ _ _ us hl => match us, hl with | [_], _ => rfl
  have F15 := fun_mk (st := s_law_paths) l15 c15 k15
  have b15 := F15.binds (ps := P_law_paths) fun _ _ _ _ _ _ us hl => match us, hl with | [_], _ => rfl
  have F16 := fun_mk (st := s_law_build) l16 c16 k16
  have b16 := F16.binds (ps := P_law_build) fun _ _ _ _ _ _ us hl => match us, hl with | [_, _, _, _, _], _ => rfl
  have F17 := fun_mk (st := s_is_rule) l17 c17 k17
  have b17 := F17.binds (ps := P_is_rule) fun _ _ _ _ _ _ us hl => match us, hl with | [_], _ => rfl
  have F18 := fun_mk (st := s_spot_of) l18 c18 k18
  have b18 := F18.binds (ps := P_spot_of) fun _ _ _ _ _ _ us hl => match us, hl with | [_, _], _ => rfl
  have F19 := fun_mk (st := s_Signs_init) l19 c19 k19
  have b19 := F19.binds (ps := P_Signs_init) fun _ _ _ _ _ _ us hl => match us, hl with | [_, _, _], _ => rfl
  have F20 := fun_mk (st := s_Signs_whole) l20 c20 k20
  have b20 := F20.binds (ps := P_Signs_whole) fun _ _ _ _ _ _ us hl => match us, hl with | [_], _ => rfl
  have F21 := fun_mk (st := s_is_spot) l21 c21 k21
  have b21 := F21.binds (ps := P_is_spot) fun _ _ _ _ _ _ us hl => match us, hl with | [_], _ => rfl
  have F22 := fun_mk (st := s_is_number) l22 c22 k22
  have b22 := F22.binds (ps := P_is_number) fun _ _ _ _ _ _ us hl => match us, hl with | [_, _, _], _ => rfl
  have F23 := fun_mk (st := s_pattern_parts) l23 c23 k23
  have b23 := F23.binds (ps := P_pattern_parts) fun _ _ _ _ _ _ us hl => match us, hl with | [_, _], _ => rfl
  have F24 := fun_mk (st := s_build_parts) l24 c24 k24
  have b24 := F24.binds (ps := P_build_parts) fun _ _ _ _ _ _ us hl => match us, hl with | [_, _, _], _ => rfl
  have F25 := fun_mk (st := s_Signs_part) l25 c25 k25
  have b25 := F25.binds (ps := P_Signs_part) fun _ _ _ _ _ _ us hl => match us, hl with | [_], _ => rfl
  have F26 := fun_mk (st := s_is_label) l26 c26 k26
  have b26 := F26.binds (ps := P_is_label) fun _ _ _ _ _ _ us hl => match us, hl with | [_], _ => rfl
  have F27 := fun_mk (st := s_has_path) l27 c27 k27
  have b27 := F27.binds (ps := P_has_path) fun _ _ _ _ _ _ us hl => match us, hl with | [_, _], _ => rfl
  have F28 := fun_mk (st := s_Signs_here) l28 c28 k28
  have b28 := F28.binds (ps := P_Signs_here) fun _ _ _ _ _ _ us hl => match us, hl with | [_], _ => rfl
  have F29 := fun_mk (st := s_Signs_take) l29 c29 k29
  have b29 := F29.binds (ps := P_Signs_take) fun _ _ _ _ _ _ us hl => match us, hl with | [_, _], _ => rfl
  have F30 := fun_mk (st := s_Signs_do) l30 c30 k30
  have b30 := F30.binds (ps := P_Signs_do) fun _ _ _ _ _ _ us hl => match us, hl with | [_], _ => rfl
  refine ⟨PySem.W.fnOf "law" "law" (defArgs s_law) (defBody s_law) (defScope s_law) .none kV0 dc0 pm0 an0 cd0 ct0, fun s v => .of_eq rfl, fun base _ _ => ?_⟩
  let W : Wd := {
    P := l.prog, w := w, K := K, mg := mg, base := base, pr := pr, F := F,
    fa := (fun i => match i with | 0 => fa | 1 => f1 | 2 => f2 | 3 => f3 | 4 => f4 | 5 => f5 | 6 => f6 | 7 => f7 | 8 => f8 | 9 => f9 | 10 => f10 | 11 => f11 | 12 => f12 | 13 => f13 | 14 => f14 | 15 => f15 | 16 => f16 | 17 => f17 | 18 => f18 | 19 => f19 | 20 => f20 | 21 => f21 | 22 => f22 | 23 => f23 | 24 => f24 | 25 => f25 | 26 => f26 | 27 => f27 | 28 => f28 | 29 => f29 | 30 => f30 | _ => fa),
    fd := (fun i => match i with | 0 => PySem.W.fnOf "law" "law" (defArgs s_law) (defBody s_law) (defScope s_law) .none kV0 dc0 pm0 an0 cd0 ct0 | 1 => PySem.W.fnOf "_law_begun" "_law_begun" (defArgs s_law_begun) (defBody s_law_begun) (defScope s_law_begun) .none kV1 dc1 pm1 an1 cd1 ct1 | 2 => PySem.W.fnOf "_law_book" "_law_book" (defArgs s_law_book) (defBody s_law_book) (defScope s_law_book) .none kV2 dc2 pm2 an2 cd2 ct2 | 3 => PySem.W.fnOf "_law_text" "_law_text" (defArgs s_law_text) (defBody s_law_text) (defScope s_law_text) .none kV3 dc3 pm3 an3 cd3 ct3 | 4 => PySem.W.fnOf "_law_alike" "_law_alike" (defArgs s_law_alike) (defBody s_law_alike) (defScope s_law_alike) .none kV4 dc4 pm4 an4 cd4 ct4 | 5 => PySem.W.fnOf "written_rules" "written_rules" (defArgs s_written_rules) (defBody s_written_rules) (defScope s_written_rules) .none kV5 dc5 pm5 an5 cd5 ct5 | 6 => PySem.W.fnOf "read_rules" "read_rules" (defArgs s_read_rules) (defBody s_read_rules) (defScope s_read_rules) .none kV6 dc6 pm6 an6 cd6 ct6 | 7 => PySem.W.fnOf "_law_take" "_law_take" (defArgs s_law_take) (defBody s_law_take) (defScope s_law_take) .none kV7 dc7 pm7 an7 cd7 ct7 | 8 => PySem.W.fnOf "_law_rule" "_law_rule" (defArgs s_law_rule) (defBody s_law_rule) (defScope s_law_rule) .none kV8 dc8 pm8 an8 cd8 ct8 | 9 => PySem.W.fnOf "need_book" "need_book" (defArgs s_need_book) (defBody s_need_book) (defScope s_need_book) .none kV9 dc9 pm9 an9 cd9 ct9 | 10 => PySem.W.fnOf "part_text" "part_text" (defArgs s_part_text) (defBody s_part_text) (defScope s_part_text) .none kV10 dc10 pm10 an10 cd10 ct10 | 11 => PySem.W.fnOf "spot_text" "spot_text" (defArgs s_spot_text) (defBody s_spot_text) (defScope s_spot_text) .none kV11 dc11 pm11 an11 cd11 ct11 | 12 => PySem.W.fnOf "rule_of" "rule_of" (defArgs s_rule_of) (defBody s_rule_of) (defScope s_rule_of) .none kV12 dc12 pm12 an12 cd12 ct12 | 13 => PySem.W.fnOf "_law_pattern" "_law_pattern" (defArgs s_law_pattern) (defBody s_law_pattern) (defScope s_law_pattern) .none kV13 dc13 pm13 an13 cd13 ct13 | 14 => PySem.W.fnOf "_law_parts" "_law_parts" (defArgs s_law_parts) (defBody s_law_parts) (defScope s_law_parts) .none kV14 dc14 pm14 an14 cd14 ct14 | 15 => PySem.W.fnOf "_law_paths" "_law_paths" (defArgs s_law_paths) (defBody s_law_paths) (defScope s_law_paths) .none kV15 dc15 pm15 an15 cd15 ct15 | 16 => PySem.W.fnOf "_law_build" "_law_build" (defArgs s_law_build) (defBody s_law_build) (defScope s_law_build) .none kV16 dc16 pm16 an16 cd16 ct16 | 17 => PySem.W.fnOf "is_rule" "is_rule" (defArgs s_is_rule) (defBody s_is_rule) (defScope s_is_rule) .none kV17 dc17 pm17 an17 cd17 ct17 | 18 => PySem.W.fnOf "spot_of" "spot_of" (defArgs s_spot_of) (defBody s_spot_of) (defScope s_spot_of) .none kV18 dc18 pm18 an18 cd18 ct18 | 19 => PySem.W.fnOf "__init__" "Signs.__init__" (defArgs s_Signs_init) (defBody s_Signs_init) (defScope s_Signs_init) .none kV19 dc19 pm19 an19 cd19 ct19 | 20 => PySem.W.fnOf "whole" "Signs.whole" (defArgs s_Signs_whole) (defBody s_Signs_whole) (defScope s_Signs_whole) .none kV20 dc20 pm20 an20 cd20 ct20 | 21 => PySem.W.fnOf "is_spot" "is_spot" (defArgs s_is_spot) (defBody s_is_spot) (defScope s_is_spot) .none kV21 dc21 pm21 an21 cd21 ct21 | 22 => PySem.W.fnOf "is_number" "is_number" (defArgs s_is_number) (defBody s_is_number) (defScope s_is_number) .none kV22 dc22 pm22 an22 cd22 ct22 | 23 => PySem.W.fnOf "pattern_parts" "pattern_parts" (defArgs s_pattern_parts) (defBody s_pattern_parts) (defScope s_pattern_parts) .none kV23 dc23 pm23 an23 cd23 ct23 | 24 => PySem.W.fnOf "build_parts" "build_parts" (defArgs s_build_parts) (defBody s_build_parts) (defScope s_build_parts) .none kV24 dc24 pm24 an24 cd24 ct24 | 25 => PySem.W.fnOf "part" "Signs.part" (defArgs s_Signs_part) (defBody s_Signs_part) (defScope s_Signs_part) .none kV25 dc25 pm25 an25 cd25 ct25 | 26 => PySem.W.fnOf "is_label" "is_label" (defArgs s_is_label) (defBody s_is_label) (defScope s_is_label) .none kV26 dc26 pm26 an26 cd26 ct26 | 27 => PySem.W.fnOf "has_path" "has_path" (defArgs s_has_path) (defBody s_has_path) (defScope s_has_path) .none kV27 dc27 pm27 an27 cd27 ct27 | 28 => PySem.W.fnOf "here" "Signs.here" (defArgs s_Signs_here) (defBody s_Signs_here) (defScope s_Signs_here) .none kV28 dc28 pm28 an28 cd28 ct28 | 29 => PySem.W.fnOf "take" "Signs.take" (defArgs s_Signs_take) (defBody s_Signs_take) (defScope s_Signs_take) .none kV29 dc29 pm29 an29 cd29 ct29 | 30 => PySem.W.fnOf "do" "Signs.do" (defArgs s_Signs_do) (defBody s_Signs_do) (defScope s_Signs_do) .none kV30 dc30 pm30 an30 cd30 ct30 | _ => PySem.W.fnOf "law" "law" (defArgs s_law) (defBody s_law) (defScope s_law) .none kV0 dc0 pm0 an0 cd0 ct0),
    ps := (fun i => match i with | 0 => P_law | 1 => P_law_begun | 2 => P_law_book | 3 => P_law_text | 4 => P_law_alike | 5 => P_written_rules | 6 => P_read_rules | 7 => P_law_take | 8 => P_law_rule | 9 => P_need_book | 10 => P_part_text | 11 => P_spot_text | 12 => P_rule_of | 13 => P_law_pattern | 14 => P_law_parts | 15 => P_law_paths | 16 => P_law_build | 17 => P_is_rule | 18 => P_spot_of | 19 => P_Signs_init | 20 => P_Signs_whole | 21 => P_is_spot | 22 => P_is_number | 23 => P_pattern_parts | 24 => P_build_parts | 25 => P_Signs_part | 26 => P_is_label | 27 => P_has_path | 28 => P_Signs_here | 29 => P_Signs_take | 30 => P_Signs_do | _ => []),
    ca := (fun c => match c with | 0 => C0 | _ => fa), ncl := 1 }
  have hdef : ∀ (i : Nat) (fi : FnIR), W.pr.fns[i]? = some fi → DefOk W cc i fi := by
    intro i fi hi
    have hi : fns[i]? = some fi := hi
    match i, hi with
    | 0, hi => cases hi; exact ⟨⟨_, _, s_law, N_law, F0, sc_law, ck_law, rfl, rfl, by decide⟩⟩
    | 1, hi => cases hi; exact ⟨⟨_, _, s_law_begun, N_law_begun, F1, sc_law_begun, ck_law_begun, rfl, rfl, by decide⟩⟩
    | 2, hi => cases hi; exact ⟨⟨_, _, s_law_book, N_law_book, F2, sc_law_book, ck_law_book, rfl, rfl, by decide⟩⟩
    | 3, hi => cases hi; exact ⟨⟨_, _, s_law_text, N_law_text, F3, sc_law_text, ck_law_text, rfl, rfl, by decide⟩⟩
    | 4, hi => cases hi; exact ⟨⟨_, _, s_law_alike, N_law_alike, F4, sc_law_alike, ck_law_alike, rfl, rfl, by decide⟩⟩
    | 5, hi => cases hi; exact ⟨⟨_, _, s_written_rules, N_written_rules, F5, sc_written_rules, ck_written_rules, rfl, rfl, by decide⟩⟩
    | 6, hi => cases hi; exact ⟨⟨_, _, s_read_rules, N_read_rules, F6, sc_read_rules, ck_read_rules, rfl, rfl, by decide⟩⟩
    | 7, hi => cases hi; exact ⟨⟨_, _, s_law_take, N_law_take, F7, sc_law_take, ck_law_take, rfl, rfl, by decide⟩⟩
    | 8, hi => cases hi; exact ⟨⟨_, _, s_law_rule, N_law_rule, F8, sc_law_rule, ck_law_rule, rfl, rfl, by decide⟩⟩
    | 9, hi => cases hi; exact ⟨⟨_, _, s_need_book, N_need_book, F9, sc_need_book, ck_need_book, rfl, rfl, by decide⟩⟩
    | 10, hi => cases hi; exact ⟨⟨_, _, s_part_text, N_part_text, F10, sc_part_text, ck_part_text, rfl, rfl, by decide⟩⟩
    | 11, hi => cases hi; exact ⟨⟨_, _, s_spot_text, N_spot_text, F11, sc_spot_text, ck_spot_text, rfl, rfl, by decide⟩⟩
    | 12, hi => cases hi; exact ⟨⟨_, _, s_rule_of, N_rule_of, F12, sc_rule_of, ck_rule_of, rfl, rfl, by decide⟩⟩
    | 13, hi => cases hi; exact ⟨⟨_, _, s_law_pattern, N_law_pattern, F13, sc_law_pattern, ck_law_pattern, rfl, rfl, by decide⟩⟩
    | 14, hi => cases hi; exact ⟨⟨_, _, s_law_parts, N_law_parts, F14, sc_law_parts, ck_law_parts, rfl, rfl, by decide⟩⟩
    | 15, hi => cases hi; exact ⟨⟨_, _, s_law_paths, N_law_paths, F15, sc_law_paths, ck_law_paths, rfl, rfl, by decide⟩⟩
    | 16, hi => cases hi; exact ⟨⟨_, _, s_law_build, N_law_build, F16, sc_law_build, ck_law_build, rfl, rfl, by decide⟩⟩
    | 17, hi => cases hi; exact ⟨⟨_, _, s_is_rule, N_is_rule, F17, sc_is_rule, ck_is_rule, rfl, rfl, by decide⟩⟩
    | 18, hi => cases hi; exact ⟨⟨_, _, s_spot_of, N_spot_of, F18, sc_spot_of, ck_spot_of, rfl, rfl, by decide⟩⟩
    | 19, hi => cases hi; exact ⟨⟨_, _, s_Signs_init, N_Signs_init, F19, sc_Signs_init, ck_Signs_init, rfl, rfl, by decide⟩⟩
    | 20, hi => cases hi; exact ⟨⟨_, _, s_Signs_whole, N_Signs_whole, F20, sc_Signs_whole, ck_Signs_whole, rfl, rfl, by decide⟩⟩
    | 21, hi => cases hi; exact ⟨⟨_, _, s_is_spot, N_is_spot, F21, sc_is_spot, ck_is_spot, rfl, rfl, by decide⟩⟩
    | 22, hi => cases hi; exact ⟨⟨_, _, s_is_number, N_is_number, F22, sc_is_number, ck_is_number, rfl, rfl, by decide⟩⟩
    | 23, hi => cases hi; exact ⟨⟨_, _, s_pattern_parts, N_pattern_parts, F23, sc_pattern_parts, ck_pattern_parts, rfl, rfl, by decide⟩⟩
    | 24, hi => cases hi; exact ⟨⟨_, _, s_build_parts, N_build_parts, F24, sc_build_parts, ck_build_parts, rfl, rfl, by decide⟩⟩
    | 25, hi => cases hi; exact ⟨⟨_, _, s_Signs_part, N_Signs_part, F25, sc_Signs_part, ck_Signs_part, rfl, rfl, by decide⟩⟩
    | 26, hi => cases hi; exact ⟨⟨_, _, s_is_label, N_is_label, F26, sc_is_label, ck_is_label, rfl, rfl, by decide⟩⟩
    | 27, hi => cases hi; exact ⟨⟨_, _, s_has_path, N_has_path, F27, sc_has_path, ck_has_path, rfl, rfl, by decide⟩⟩
    | 28, hi => cases hi; exact ⟨⟨_, _, s_Signs_here, N_Signs_here, F28, sc_Signs_here, ck_Signs_here, rfl, rfl, by decide⟩⟩
    | 29, hi => cases hi; exact ⟨⟨_, _, s_Signs_take, N_Signs_take, F29, sc_Signs_take, ck_Signs_take, rfl, rfl, by decide⟩⟩
    | 30, hi => cases hi; exact ⟨⟨_, _, s_Signs_do, N_Signs_do, F30, sc_Signs_do, ck_Signs_do, rfl, rfl, by decide⟩⟩
    | i + 31, hi => cases hi
  have hW : WOk W cc := by
    constructor
    · intro x i hx
      have hx : List.lookup x [(("law" : Str), f_law), (("_law_begun" : Str), f_law_begun), (("_law_book" : Str), f_law_book), (("_law_text" : Str), f_law_text), (("_law_alike" : Str), f_law_alike), (("written_rules" : Str), f_written_rules), (("read_rules" : Str), f_read_rules), (("_law_take" : Str), f_law_take), (("_law_rule" : Str), f_law_rule), (("need_book" : Str), f_need_book), (("part_text" : Str), f_part_text), (("spot_text" : Str), f_spot_text), (("rule_of" : Str), f_rule_of), (("_law_pattern" : Str), f_law_pattern), (("_law_parts" : Str), f_law_parts), (("_law_paths" : Str), f_law_paths), (("_law_build" : Str), f_law_build), (("is_rule" : Str), f_is_rule), (("spot_of" : Str), f_spot_of), (("is_spot" : Str), f_is_spot), (("is_number" : Str), f_is_number), (("pattern_parts" : Str), f_pattern_parts), (("build_parts" : Str), f_build_parts), (("is_label" : Str), f_is_label), (("has_path" : Str), f_has_path)] = some i := hx
      rw [lookupP] at hx; by_cases hq : x = ("law" : Str)
      · rw [if_pos hq] at hx; cases hx; subst hq; exact ⟨PySem.W.mg_of X G a0, k0, _, rfl⟩
      rw [if_neg hq] at hx; clear hq
      rw [lookupP] at hx; by_cases hq : x = ("_law_begun" : Str)
      · rw [if_pos hq] at hx; cases hx; subst hq; exact ⟨PySem.W.mg_of X G a1, k1, _, rfl⟩
      rw [if_neg hq] at hx; clear hq
      rw [lookupP] at hx; by_cases hq : x = ("_law_book" : Str)
      · rw [if_pos hq] at hx; cases hx; subst hq; exact ⟨PySem.W.mg_of X G a2, k2, _, rfl⟩
      rw [if_neg hq] at hx; clear hq
      rw [lookupP] at hx; by_cases hq : x = ("_law_text" : Str)
      · rw [if_pos hq] at hx; cases hx; subst hq; exact ⟨PySem.W.mg_of X G a3, k3, _, rfl⟩
      rw [if_neg hq] at hx; clear hq
      rw [lookupP] at hx; by_cases hq : x = ("_law_alike" : Str)
      · rw [if_pos hq] at hx; cases hx; subst hq; exact ⟨PySem.W.mg_of X G a4, k4, _, rfl⟩
      rw [if_neg hq] at hx; clear hq
      rw [lookupP] at hx; by_cases hq : x = ("written_rules" : Str)
      · rw [if_pos hq] at hx; cases hx; subst hq; exact ⟨PySem.W.mg_of X G a5, k5, _, rfl⟩
      rw [if_neg hq] at hx; clear hq
      rw [lookupP] at hx; by_cases hq : x = ("read_rules" : Str)
      · rw [if_pos hq] at hx; cases hx; subst hq; exact ⟨PySem.W.mg_of X G a6, k6, _, rfl⟩
      rw [if_neg hq] at hx; clear hq
      rw [lookupP] at hx; by_cases hq : x = ("_law_take" : Str)
      · rw [if_pos hq] at hx; cases hx; subst hq; exact ⟨PySem.W.mg_of X G a7, k7, _, rfl⟩
      rw [if_neg hq] at hx; clear hq
      rw [lookupP] at hx; by_cases hq : x = ("_law_rule" : Str)
      · rw [if_pos hq] at hx; cases hx; subst hq; exact ⟨PySem.W.mg_of X G a8, k8, _, rfl⟩
      rw [if_neg hq] at hx; clear hq
      rw [lookupP] at hx; by_cases hq : x = ("need_book" : Str)
      · rw [if_pos hq] at hx; cases hx; subst hq; exact ⟨PySem.W.mg_of X G a9, k9, _, rfl⟩
      rw [if_neg hq] at hx; clear hq
      rw [lookupP] at hx; by_cases hq : x = ("part_text" : Str)
      · rw [if_pos hq] at hx; cases hx; subst hq; exact ⟨PySem.W.mg_of X G a10, k10, _, rfl⟩
      rw [if_neg hq] at hx; clear hq
      rw [lookupP] at hx; by_cases hq : x = ("spot_text" : Str)
      · rw [if_pos hq] at hx; cases hx; subst hq; exact ⟨PySem.W.mg_of X G a11, k11, _, rfl⟩
      rw [if_neg hq] at hx; clear hq
      rw [lookupP] at hx; by_cases hq : x = ("rule_of" : Str)
      · rw [if_pos hq] at hx; cases hx; subst hq; exact ⟨PySem.W.mg_of X G a12, k12, _, rfl⟩
      rw [if_neg hq] at hx; clear hq
      rw [lookupP] at hx; by_cases hq : x = ("_law_pattern" : Str)
      · rw [if_pos hq] at hx; cases hx; subst hq; exact ⟨PySem.W.mg_of X G a13, k13, _, rfl⟩
      rw [if_neg hq] at hx; clear hq
      rw [lookupP] at hx; by_cases hq : x = ("_law_parts" : Str)
      · rw [if_pos hq] at hx; cases hx; subst hq; exact ⟨PySem.W.mg_of X G a14, k14, _, rfl⟩
      rw [if_neg hq] at hx; clear hq
      rw [lookupP] at hx; by_cases hq : x = ("_law_paths" : Str)
      · rw [if_pos hq] at hx; cases hx; subst hq; exact ⟨PySem.W.mg_of X G a15, k15, _, rfl⟩
      rw [if_neg hq] at hx; clear hq
      rw [lookupP] at hx; by_cases hq : x = ("_law_build" : Str)
      · rw [if_pos hq] at hx; cases hx; subst hq; exact ⟨PySem.W.mg_of X G a16, k16, _, rfl⟩
      rw [if_neg hq] at hx; clear hq
      rw [lookupP] at hx; by_cases hq : x = ("is_rule" : Str)
      · rw [if_pos hq] at hx; cases hx; subst hq; exact ⟨PySem.W.mg_of X G a17, k17, _, rfl⟩
      rw [if_neg hq] at hx; clear hq
      rw [lookupP] at hx; by_cases hq : x = ("spot_of" : Str)
      · rw [if_pos hq] at hx; cases hx; subst hq; exact ⟨PySem.W.mg_of X G a18, k18, _, rfl⟩
      rw [if_neg hq] at hx; clear hq
      rw [lookupP] at hx; by_cases hq : x = ("is_spot" : Str)
      · rw [if_pos hq] at hx; cases hx; subst hq; exact ⟨PySem.W.mg_of X G a21, k21, _, rfl⟩
      rw [if_neg hq] at hx; clear hq
      rw [lookupP] at hx; by_cases hq : x = ("is_number" : Str)
      · rw [if_pos hq] at hx; cases hx; subst hq; exact ⟨PySem.W.mg_of X G a22, k22, _, rfl⟩
      rw [if_neg hq] at hx; clear hq
      rw [lookupP] at hx; by_cases hq : x = ("pattern_parts" : Str)
      · rw [if_pos hq] at hx; cases hx; subst hq; exact ⟨PySem.W.mg_of X G a23, k23, _, rfl⟩
      rw [if_neg hq] at hx; clear hq
      rw [lookupP] at hx; by_cases hq : x = ("build_parts" : Str)
      · rw [if_pos hq] at hx; cases hx; subst hq; exact ⟨PySem.W.mg_of X G a24, k24, _, rfl⟩
      rw [if_neg hq] at hx; clear hq
      rw [lookupP] at hx; by_cases hq : x = ("is_label" : Str)
      · rw [if_pos hq] at hx; cases hx; subst hq; exact ⟨PySem.W.mg_of X G a26, k26, _, rfl⟩
      rw [if_neg hq] at hx; clear hq
      rw [lookupP] at hx; by_cases hq : x = ("has_path" : Str)
      · rw [if_pos hq] at hx; cases hx; subst hq; exact ⟨PySem.W.mg_of X G a27, k27, _, rfl⟩
      rw [if_neg hq] at hx; clear hq
      cases hx
    · intro i fi hi
      have hi : fns[i]? = some fi := hi
      match i, hi with
      | 0, hi => cases hi; exact ⟨b0, rfl⟩
      | 1, hi => cases hi; exact ⟨b1, rfl⟩
      | 2, hi => cases hi; exact ⟨b2, rfl⟩
      | 3, hi => cases hi; exact ⟨b3, rfl⟩
      | 4, hi => cases hi; exact ⟨b4, rfl⟩
      | 5, hi => cases hi; exact ⟨b5, rfl⟩
      | 6, hi => cases hi; exact ⟨b6, rfl⟩
      | 7, hi => cases hi; exact ⟨b7, rfl⟩
      | 8, hi => cases hi; exact ⟨b8, rfl⟩
      | 9, hi => cases hi; exact ⟨b9, rfl⟩
      | 10, hi => cases hi; exact ⟨b10, rfl⟩
      | 11, hi => cases hi; exact ⟨b11, rfl⟩
      | 12, hi => cases hi; exact ⟨b12, rfl⟩
      | 13, hi => cases hi; exact ⟨b13, rfl⟩
      | 14, hi => cases hi; exact ⟨b14, rfl⟩
      | 15, hi => cases hi; exact ⟨b15, rfl⟩
      | 16, hi => cases hi; exact ⟨b16, rfl⟩
      | 17, hi => cases hi; exact ⟨b17, rfl⟩
      | 18, hi => cases hi; exact ⟨b18, rfl⟩
      | 19, hi => cases hi; exact ⟨b19, rfl⟩
      | 20, hi => cases hi; exact ⟨b20, rfl⟩
      | 21, hi => cases hi; exact ⟨b21, rfl⟩
      | 22, hi => cases hi; exact ⟨b22, rfl⟩
      | 23, hi => cases hi; exact ⟨b23, rfl⟩
      | 24, hi => cases hi; exact ⟨b24, rfl⟩
      | 25, hi => cases hi; exact ⟨b25, rfl⟩
      | 26, hi => cases hi; exact ⟨b26, rfl⟩
      | 27, hi => cases hi; exact ⟨b27, rfl⟩
      | 28, hi => cases hi; exact ⟨b28, rfl⟩
      | 29, hi => cases hi; exact ⟨b29, rfl⟩
      | 30, hi => cases hi; exact ⟨b30, rfl⟩
      | i + 31, hi => cases hi
    · intro x d hx
      have hx : List.lookup x [(("ANY" : Str), g_ANY), (("DO" : Str), g_DO), (("FIGURES" : Str), g_FIGURES), (("LABELS" : Str), g_LABELS), (("LEAF" : Str), g_LEAF), (("MOST_BUILD" : Str), g_MOST_BUILD), (("MOST_BUILD_DEEP" : Str), g_MOST_BUILD_DEEP), (("MOST_KIDS" : Str), g_MOST_KIDS), (("MOST_PARTS" : Str), g_MOST_PARTS), (("MOST_PATTERN_DEEP" : Str), g_MOST_PATTERN_DEEP), (("MOST_RULES" : Str), g_MOST_RULES), (("MOST_STATE" : Str), g_MOST_STATE)] = some d := hx
      rw [lookupP] at hx; by_cases hq : x = ("ANY" : Str)
      · rw [if_pos hq] at hx; cases hx; subst hq
        refine ⟨_, .ref T0, PySem.W.mg_of X G g0, rfl, fun H m => ?_⟩
        rw [Rp]; refine ⟨T0, [.str "any"], rfl, .inr ⟨_, _, _, h0, rfl, rfl, (by show 1 ≤ sizeLine; decide), .cons ⟨t0, rfl⟩ .nil⟩, ?_⟩
        rw [Rps]; exact ⟨_, _, rfl, (by first | (rw [Rp]; done) | (rw [Rp]; rfl)), by rw [Rps]⟩
      rw [if_neg hq] at hx; clear hq
      rw [lookupP] at hx; by_cases hq : x = ("DO" : Str)
      · rw [if_pos hq] at hx; cases hx; subst hq
        exact ⟨_, .str "do", PySem.W.mg_of X G g1, ⟨t1, rfl⟩, fun H m => by first | (rw [Rp]; done) | (rw [Rp]; rfl)⟩
      rw [if_neg hq] at hx; clear hq
      rw [lookupP] at hx; by_cases hq : x = ("FIGURES" : Str)
      · rw [if_pos hq] at hx; cases hx; subst hq
        exact ⟨_, .str "0123456789", PySem.W.mg_of X G g2, ⟨t2, rfl⟩, fun H m => by first | (rw [Rp]; done) | (rw [Rp]; rfl)⟩
      rw [if_neg hq] at hx; clear hq
      rw [lookupP] at hx; by_cases hq : x = ("LABELS" : Str)
      · rw [if_pos hq] at hx; cases hx; subst hq
        exact ⟨_, .str "abcdef", PySem.W.mg_of X G g3, ⟨t3, rfl⟩, fun H m => by first | (rw [Rp]; done) | (rw [Rp]; rfl)⟩
      rw [if_neg hq] at hx; clear hq
      rw [lookupP] at hx; by_cases hq : x = ("LEAF" : Str)
      · rw [if_pos hq] at hx; cases hx; subst hq
        refine ⟨_, .ref T4, PySem.W.mg_of X G g4, rfl, fun H m => ?_⟩
        rw [Rp]; refine ⟨T4, [.str "leaf"], rfl, .inr ⟨_, _, _, h4, rfl, rfl, (by show 1 ≤ sizeLine; decide), .cons ⟨t4, rfl⟩ .nil⟩, ?_⟩
        rw [Rps]; exact ⟨_, _, rfl, (by first | (rw [Rp]; done) | (rw [Rp]; rfl)), by rw [Rps]⟩
      rw [if_neg hq] at hx; clear hq
      rw [lookupP] at hx; by_cases hq : x = ("MOST_BUILD" : Str)
      · rw [if_pos hq] at hx; cases hx; subst hq
        exact ⟨_, .int 12, PySem.W.mg_of X G g5, ⟨t5, rfl⟩, fun H m => by first | (rw [Rp]; done) | (rw [Rp]; rfl)⟩
      rw [if_neg hq] at hx; clear hq
      rw [lookupP] at hx; by_cases hq : x = ("MOST_BUILD_DEEP" : Str)
      · rw [if_pos hq] at hx; cases hx; subst hq
        exact ⟨_, .int 4, PySem.W.mg_of X G g6, ⟨t6, rfl⟩, fun H m => by first | (rw [Rp]; done) | (rw [Rp]; rfl)⟩
      rw [if_neg hq] at hx; clear hq
      rw [lookupP] at hx; by_cases hq : x = ("MOST_KIDS" : Str)
      · rw [if_pos hq] at hx; cases hx; subst hq
        exact ⟨_, .int 3, PySem.W.mg_of X G g7, ⟨t7, rfl⟩, fun H m => by first | (rw [Rp]; done) | (rw [Rp]; rfl)⟩
      rw [if_neg hq] at hx; clear hq
      rw [lookupP] at hx; by_cases hq : x = ("MOST_PARTS" : Str)
      · rw [if_pos hq] at hx; cases hx; subst hq
        exact ⟨_, .int 7, PySem.W.mg_of X G g8, ⟨t8, rfl⟩, fun H m => by first | (rw [Rp]; done) | (rw [Rp]; rfl)⟩
      rw [if_neg hq] at hx; clear hq
      rw [lookupP] at hx; by_cases hq : x = ("MOST_PATTERN_DEEP" : Str)
      · rw [if_pos hq] at hx; cases hx; subst hq
        exact ⟨_, .int 3, PySem.W.mg_of X G g9, ⟨t9, rfl⟩, fun H m => by first | (rw [Rp]; done) | (rw [Rp]; rfl)⟩
      rw [if_neg hq] at hx; clear hq
      rw [lookupP] at hx; by_cases hq : x = ("MOST_RULES" : Str)
      · rw [if_pos hq] at hx; cases hx; subst hq
        exact ⟨_, .int 16, PySem.W.mg_of X G g10, ⟨t10, rfl⟩, fun H m => by first | (rw [Rp]; done) | (rw [Rp]; rfl)⟩
      rw [if_neg hq] at hx; clear hq
      rw [lookupP] at hx; by_cases hq : x = ("MOST_STATE" : Str)
      · rw [if_pos hq] at hx; cases hx; subst hq
        exact ⟨_, .int 5, PySem.W.mg_of X G g11, ⟨t11, rfl⟩, fun H m => by first | (rw [Rp]; done) | (rw [Rp]; rfl)⟩
      rw [if_neg hq] at hx; clear hq
      cases hx
    · intro x hx
      have hx : x ∈ [("bool" : Str), ("enumerate" : Str), ("int" : Str), ("isinstance" : Str), ("len" : Str), ("list" : Str), ("range" : Str), ("str" : Str), ("sum" : Str), ("tuple" : Str)] := hx
      simp only [List.mem_cons, List.not_mem_nil, or_false] at hx
      rcases hx with rfl | rfl | rfl | rfl | rfl | rfl | rfl | rfl | rfl | rfl
      · exact PySem.W.mg_none_of X G z0
      · exact PySem.W.mg_none_of X G z1
      · exact PySem.W.mg_none_of X G z2
      · exact PySem.W.mg_none_of X G z3
      · exact PySem.W.mg_none_of X G z4
      · exact PySem.W.mg_none_of X G z5
      · exact PySem.W.mg_none_of X G z6
      · exact PySem.W.mg_none_of X G z7
      · exact PySem.W.mg_none_of X G z8
      · exact PySem.W.mg_none_of X G z9
    · intro x c hx
      have hx : List.lookup x [(("Signs" : Str), c_Signs)] = some c := hx
      rw [lookupP] at hx; by_cases hq : x = ("Signs" : Str)
      · rw [if_pos hq] at hx; cases hx; subst hq; exact ⟨PySem.W.mg_of X G aC0, (by show 0 < 1; decide), _, rfl⟩
      rw [if_neg hq] at hx; clear hq
      cases hx
    · intro c hc
      have hc : c < 1 := hc
      match c, hc with
      | 0, _ => exact ⟨pg0, hd0, po0, sa0⟩
      | c + 1, hc => exact absurd hc (by omega)
    · intro c f hc hf
      have hc : c < 1 := hc
      have hf : f ∈ [("text" : Str), ("at" : Str), ("kind" : Str)] := hf
      simp only [List.mem_cons, List.not_mem_nil, or_false] at hf
      match c, hc with
      | 0, _ =>
        rcases hf with rfl | rfl | rfl
        · exact n0_0
        · exact n0_1
        · exact n0_2
      | c + 1, hc => exact absurd hc (by omega)
    · intro c f hf
      have hf : ini c = some f := hf
      match c, hf with
      | 0, hf => cases hf; exact ⟨⟨mk0, a19, i19, kc0⟩, _, rfl⟩
      | c + 1, hf => cases hf
    · intro x mi c f hx hc hf
      have hc : c < 1 := hc
      have hx : List.lookup x [(("whole" : Str), m_whole), (("part" : Str), m_part), (("here" : Str), m_here), (("take" : Str), m_take), (("do" : Str), m_do)] = some mi := hx
      have hf : meth c mi = some f := hf
      rw [lookupP] at hx; by_cases hq : x = ("whole" : Str)
      · rw [if_pos hq] at hx; cases hx; subst hq
        match c, hc, hf with
        | 0, _, hf => cases hf; exact ⟨⟨a20, i20, k20⟩, _, rfl⟩
        | c + 1, hc, _ => exact absurd hc (by omega)
      rw [if_neg hq] at hx; clear hq
      rw [lookupP] at hx; by_cases hq : x = ("part" : Str)
      · rw [if_pos hq] at hx; cases hx; subst hq
        match c, hc, hf with
        | 0, _, hf => cases hf; exact ⟨⟨a25, i25, k25⟩, _, rfl⟩
        | c + 1, hc, _ => exact absurd hc (by omega)
      rw [if_neg hq] at hx; clear hq
      rw [lookupP] at hx; by_cases hq : x = ("here" : Str)
      · rw [if_pos hq] at hx; cases hx; subst hq
        match c, hc, hf with
        | 0, _, hf => cases hf; exact ⟨⟨a28, i28, k28⟩, _, rfl⟩
        | c + 1, hc, _ => exact absurd hc (by omega)
      rw [if_neg hq] at hx; clear hq
      rw [lookupP] at hx; by_cases hq : x = ("take" : Str)
      · rw [if_pos hq] at hx; cases hx; subst hq
        match c, hc, hf with
        | 0, _, hf => cases hf; exact ⟨⟨a29, i29, k29⟩, _, rfl⟩
        | c + 1, hc, _ => exact absurd hc (by omega)
      rw [if_neg hq] at hx; clear hq
      rw [lookupP] at hx; by_cases hq : x = ("do" : Str)
      · rw [if_pos hq] at hx; cases hx; subst hq
        match c, hc, hf with
        | 0, _, hf => cases hf; exact ⟨⟨a30, i30, k30⟩, _, rfl⟩
        | c + 1, hc, _ => exact absurd hc (by omega)
      rw [if_neg hq] at hx; clear hq
      cases hx
  exact Z.law_ok (W := W) (lv_all hW hdef kmax) (i := f_law) (fi := ⟨1, 13, b_law⟩) rfl rfl hev
theorem walk {l : PySem.W.OpenLaw} {kmax : Nat} {q : Program} {loose : List Str} {XP : (Str → Option Value) → Heap → Prop} {YP : World → Heap → Prop} {d : DefRec} {K : Params → PySem.W.Frag} (hr : Room (2 * kmax) callerA) (hn : l.most = some 63) (hdf : d.params.defaults = [])
    (hY : ∀ (w : World) (h : Heap), YP w h → (K w.params).In h)
    (F : ∀ (w : World) (mg : Str → Option Value) (fa : Addr) (h : Heap), (K w.params).In h → h.Ns mainGlobals mg → mg d.name = some (.ref fa) →
      ∃ fd : FuncData, (∀ (s : Shared) (u : Value), BindsTo s fd ⟨[u], []⟩ [("_law_script", u)]) ∧ ∀ base : Heap, (K w.params).In base → base.Ns mainGlobals mg → FnOk l.prog w (K w.params) mg base (L2.CX l.prog w) (2 * kmax) fa fd ["_law_script"] (Z.spLaw (K w.params))) :
    PySem.W.WalkO q loose XP YP l.row.toRowW d [] (fun f vs => PySem.call f vs) :=
  L2.walk_of (n := 63) (k := 2 * kmax) (x := "_law_script") (CX := fun w => L2.CX l.prog w) (sp := fun w => Z.spLaw (K w.params)) hn (by decide) hdf hr hY F (fun _ _ a ns hl ho hS => ⟨a, ns, rfl, ho, hS, hl, fun _ => rfl⟩) fun _ _ _ _ _ z => by
    obtain ⟨_, _, _, _, _, _, _, _, _, _, _, _, z⟩ := z
    exact z
end Law
open PySem PySem.W PyProof.Rows
theorem PySem.Challenge.cw_treetellers_k21_books_written_holds : PySem.Challenge.rw_treetellers_k21_books_written.Holds := by
  w_on; o_law; k_head; (case hw => w_witness2)
  k_fill
  refine Law.walk (kmax := Law.KMAX) (l := PySem.Challenge.rw_treetellers_k21_books_written) ⟨rfl, by decide, by decide⟩ rfl rfl (fun w h Y => PySem.W.kIn_of Y) ?F
  case F =>
    intro w mg fa h KX G hmg
    refine' Law.all_mk KX G hmg ?zq_aC0 ?zq_pg0 ?zq_hd0 ?zq_po0 ?zq_sa0 ?zq_mk0 ?zq_kc0 ?zq_n0_0 ?zq_n0_1 ?zq_n0_2 ?zq_a0 ?zq_l0 ?zq_c0 ?zq_k0 ?zq_a1 ?zq_l1 ?zq_c1 ?zq_k1 ?zq_a2 ?zq_l2 ?zq_c2 ?zq_k2 ?zq_a3 ?zq_l3 ?zq_c3 ?zq_k3 ?zq_a4 ?zq_l4 ?zq_c4 ?zq_k4 ?zq_a5 ?zq_l5 ?zq_c5 ?zq_k5 ?zq_a6 ?zq_l6 ?zq_c6 ?zq_k6 ?zq_a7 ?zq_l7 ?zq_c7 ?zq_k7 ?zq_a8 ?zq_l8 ?zq_c8 ?zq_k8 ?zq_a9 ?zq_l9 ?zq_c9 ?zq_k9 ?zq_a10 ?zq_l10 ?zq_c10 ?zq_k10 ?zq_a11 ?zq_l11 ?zq_c11 ?zq_k11 ?zq_a12 ?zq_l12 ?zq_c12 ?zq_k12 ?zq_a13 ?zq_l13 ?zq_c13 ?zq_k13 ?zq_a14 ?zq_l14 ?zq_c14 ?zq_k14 ?zq_a15 ?zq_l15 ?zq_c15 ?zq_k15 ?zq_a16 ?zq_l16 ?zq_c16 ?zq_k16 ?zq_a17 ?zq_l17 ?zq_c17 ?zq_k17 ?zq_a18 ?zq_l18 ?zq_c18 ?zq_k18 ?zq_a19 ?zq_i19 ?zq_l19 ?zq_c19 ?zq_k19 ?zq_a20 ?zq_i20 ?zq_l20 ?zq_c20 ?zq_k20 ?zq_a21 ?zq_l21 ?zq_c21 ?zq_k21 ?zq_a22 ?zq_l22 ?zq_c22 ?zq_k22 ?zq_a23 ?zq_l23 ?zq_c23 ?zq_k23 ?zq_a24 ?zq_l24 ?zq_c24 ?zq_k24 ?zq_a25 ?zq_i25 ?zq_l25 ?zq_c25 ?zq_k25 ?zq_a26 ?zq_l26 ?zq_c26 ?zq_k26 ?zq_a27 ?zq_l27 ?zq_c27 ?zq_k27 ?zq_a28 ?zq_i28 ?zq_l28 ?zq_c28 ?zq_k28 ?zq_a29 ?zq_i29 ?zq_l29 ?zq_c29 ?zq_k29 ?zq_a30 ?zq_i30 ?zq_l30 ?zq_c30 ?zq_k30 ?zq_g0 ?zq_h0 ?zq_g1 ?zq_g2 ?zq_g3 ?zq_g4 ?zq_h4 ?zq_g5 ?zq_g6 ?zq_g7 ?zq_g8 ?zq_g9 ?zq_g10 ?zq_g11 ?zq_z0 ?zq_z1 ?zq_z2 ?zq_z3 ?zq_z4 ?zq_z5 ?zq_z6 ?zq_z7 ?zq_z8 ?zq_z9 Law.KMAX Law.FUEL Law.law_ev
    (case zq_aC0 => k_is); (case zq_pg0 => k_is); (case zq_hd0 => k_is); (case zq_po0 => k_is); (case zq_sa0 => k_is); (case zq_mk0 => k_is)
    (case zq_kc0 => k_is); (case zq_n0_0 => k_is); (case zq_n0_1 => k_is); (case zq_n0_2 => k_is); (case zq_a0 => k_is); (case zq_l0 => k_is)
    (case zq_c0 => k_is); (case zq_k0 => k_is); (case zq_a1 => k_is); (case zq_l1 => k_is); (case zq_c1 => k_is); (case zq_k1 => k_is)
    (case zq_a2 => k_is); (case zq_l2 => k_is); (case zq_c2 => k_is); (case zq_k2 => k_is); (case zq_a3 => k_is); (case zq_l3 => k_is)
    (case zq_c3 => k_is); (case zq_k3 => k_is); (case zq_a4 => k_is); (case zq_l4 => k_is); (case zq_c4 => k_is); (case zq_k4 => k_is)
    (case zq_a5 => k_is); (case zq_l5 => k_is); (case zq_c5 => k_is); (case zq_k5 => k_is); (case zq_a6 => k_is); (case zq_l6 => k_is)
    (case zq_c6 => k_is); (case zq_k6 => k_is); (case zq_a7 => k_is); (case zq_l7 => k_is); (case zq_c7 => k_is); (case zq_k7 => k_is)
    (case zq_a8 => k_is); (case zq_l8 => k_is); (case zq_c8 => k_is); (case zq_k8 => k_is); (case zq_a9 => k_is); (case zq_l9 => k_is)
    (case zq_c9 => k_is); (case zq_k9 => k_is); (case zq_a10 => k_is); (case zq_l10 => k_is); (case zq_c10 => k_is); (case zq_k10 => k_is)
    (case zq_a11 => k_is); (case zq_l11 => k_is); (case zq_c11 => k_is); (case zq_k11 => k_is); (case zq_a12 => k_is); (case zq_l12 => k_is)
    (case zq_c12 => k_is); (case zq_k12 => k_is); (case zq_a13 => k_is); (case zq_l13 => k_is); (case zq_c13 => k_is); (case zq_k13 => k_is)
    (case zq_a14 => k_is); (case zq_l14 => k_is); (case zq_c14 => k_is); (case zq_k14 => k_is); (case zq_a15 => k_is); (case zq_l15 => k_is)
    (case zq_c15 => k_is); (case zq_k15 => k_is); (case zq_a16 => k_is); (case zq_l16 => k_is); (case zq_c16 => k_is); (case zq_k16 => k_is)
    (case zq_a17 => k_is); (case zq_l17 => k_is); (case zq_c17 => k_is); (case zq_k17 => k_is); (case zq_a18 => k_is); (case zq_l18 => k_is)
    (case zq_c18 => k_is); (case zq_k18 => k_is); (case zq_a19 => k_is); (case zq_i19 => k_is); (case zq_l19 => k_is); (case zq_c19 => k_is)
    (case zq_k19 => k_is); (case zq_a20 => k_is); (case zq_i20 => k_is); (case zq_l20 => k_is); (case zq_c20 => k_is); (case zq_k20 => k_is)
    (case zq_a21 => k_is); (case zq_l21 => k_is); (case zq_c21 => k_is); (case zq_k21 => k_is); (case zq_a22 => k_is); (case zq_l22 => k_is)
    (case zq_c22 => k_is); (case zq_k22 => k_is); (case zq_a23 => k_is); (case zq_l23 => k_is); (case zq_c23 => k_is); (case zq_k23 => k_is)
    (case zq_a24 => k_is); (case zq_l24 => k_is); (case zq_c24 => k_is); (case zq_k24 => k_is); (case zq_a25 => k_is); (case zq_i25 => k_is)
    (case zq_l25 => k_is); (case zq_c25 => k_is); (case zq_k25 => k_is); (case zq_a26 => k_is); (case zq_l26 => k_is); (case zq_c26 => k_is)
    (case zq_k26 => k_is); (case zq_a27 => k_is); (case zq_l27 => k_is); (case zq_c27 => k_is); (case zq_k27 => k_is); (case zq_a28 => k_is)
    (case zq_i28 => k_is); (case zq_l28 => k_is); (case zq_c28 => k_is); (case zq_k28 => k_is); (case zq_a29 => k_is); (case zq_i29 => k_is)
    (case zq_l29 => k_is); (case zq_c29 => k_is); (case zq_k29 => k_is); (case zq_a30 => k_is); (case zq_i30 => k_is); (case zq_l30 => k_is)
    (case zq_c30 => k_is); (case zq_k30 => k_is); (case zq_g0 => k_is); (case zq_h0 => k_is); (case zq_g1 => k_is); (case zq_g2 => k_is)
    (case zq_g3 => k_is); (case zq_g4 => k_is); (case zq_h4 => k_is); (case zq_g5 => k_is); (case zq_g6 => k_is); (case zq_g7 => k_is)
    (case zq_g8 => k_is); (case zq_g9 => k_is); (case zq_g10 => k_is); (case zq_g11 => k_is); (case zq_z0 => k_is); (case zq_z1 => k_is)
    (case zq_z2 => k_is); (case zq_z3 => k_is); (case zq_z4 => k_is); (case zq_z5 => k_is); (case zq_z6 => k_is); (case zq_z7 => k_is)
    (case zq_z8 => k_is); (case zq_z9 => k_is)
