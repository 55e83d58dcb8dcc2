import PyProof.Rows.All
import Wide.All
import OpenK.AllK
import Wide.FinOn
import HandS.ForMost
import HandS.ForExc
import HandS.TupAny
import HandS.TupMul
import HandS.Style
import HandS.IsInst
import HandS.Deep
import HandS.ExcInit
import PySem.Challenge.RW_treetellers_k19_trees_written
set_option Elab.async false
set_option linter.all false
set_option maxRecDepth 100000
set_option maxHeartbeats 4000000
/-! Z: a small evaluator of a part of Python over data, and (behind) that the machine does what it says. -/
namespace Z
open PySem L2

/-! ### data -/
abbrev Tx := List Nat
def sOf (x : Tx) : Str := Str.mk x.toArray
inductive D where
  | non | bl (b : Bool) | int (i : Int) | str (x : Tx) | tup (xs : List D) | loc (n : Nat)
  /-- a list that stays as it is (the script) -/
  | fl (xs : List D)
mutual
def D.beq : D → D → Bool
  | .non, .non => true
  | .bl a, .bl b => a == b
  | .int a, .int b => a == b
  | .str a, .str b => a == b
  | .tup a, .tup b => D.beqs a b
  | .loc a, .loc b => a == b
  | .fl a, .fl b => D.beqs a b
  | _, _ => false
def D.beqs : List D → List D → Bool
  | [], [] => true
  | x :: xs, y :: ys => D.beq x y && D.beqs xs ys
  | _, _ => false
end
mutual
theorem D.eq_of : ∀ a b : D, D.beq a b = true → a = b
  | .non, b, h => by cases b <;> simp_all [D.beq]
  | .bl x, b, h => by cases b <;> simp_all [D.beq]
  | .int x, b, h => by cases b <;> simp_all [D.beq]
  | .str x, b, h => by cases b <;> simp_all [D.beq]
  | .tup xs, b, h => by
    cases b with
    | tup ys => rw [D.beq] at h; rw [D.eqs_of xs ys h]
    | _ => simp [D.beq] at h
  | .loc x, b, h => by cases b <;> simp_all [D.beq]
  | .fl xs, b, h => by
    cases b with
    | fl ys => rw [D.beq] at h; rw [D.eqs_of xs ys h]
    | _ => simp [D.beq] at h
theorem D.eqs_of : ∀ a b : List D, D.beqs a b = true → a = b
  | [], [], _ => rfl
  | [], _ :: _, h => by simp [D.beqs] at h
  | _ :: _, [], h => by simp [D.beqs] at h
  | x :: xs, y :: ys, h => by
    rw [D.beqs, Bool.and_eq_true] at h
    rw [D.eq_of x y h.1, D.eqs_of xs ys h.2]
end
mutual
theorem D.beq_rf : ∀ a : D, D.beq a a = true
  | .non => rfl
  | .bl x => by simp [D.beq]
  | .int x => by simp [D.beq]
  | .str x => by simp [D.beq]
  | .tup xs => by rw [D.beq]; exact D.beqs_rf xs
  | .loc x => by simp [D.beq]
  | .fl xs => by rw [D.beq]; exact D.beqs_rf xs
theorem D.beqs_rf : ∀ a : List D, D.beqs a a = true
  | [] => rfl
  | x :: xs => by rw [D.beqs, D.beq_rf x, D.beqs_rf xs]; rfl
end
instance : DecidableEq D := fun a b => if h : D.beq a b = true then isTrue (D.eq_of a b h) else isFalse fun e => h (by rw [e]; exact D.beq_rf b)

/-- a thing that may change -/
inductive Cell where
  | lst (xs : List D) | ins (c : Nat) (fs : List (Str × D))
deriving DecidableEq
abbrev Sto := List Cell
abbrev Env := List (Option D)
/-- an exception -/
structure Ex where
  c : Nat
  f : Option (Str × D)
inductive R (α : Type) where
  | ok (a : α) (st : Sto) | exc (e : Ex) (st : Sto) | stuck
def R.bind {α β : Type} : R α → (α → Sto → R β) → R β
  | .ok a st, f => f a st
  | .exc e st, _ => .exc e st
  | .stuck, _ => .stuck
/-- an exception is not carried -/
def R.noex {α : Type} : R α → R α
  | .ok a st => .ok a st
  | _ => .stuck

/-! ### what the pieces of the text are -/
inductive BOp where | add | sub | mul | fdiv | mod
deriving DecidableEq
inductive COp where | eq | ne | lt | le | gt | ge | isN | notN | mem | nmem
deriving DecidableEq
inductive Kd where | bool | int | str | tup | lst
deriving DecidableEq
inductive Bi where | len | int | list | tuple | str | sum
deriving DecidableEq
inductive Me where | append | pop | extend | join | clear
deriving DecidableEq
inductive IT where | name (i : Nat) | tup (is : List Nat)
mutual
inductive IE where
  | var (i : Nat) | cst (d : D) | gl (d : D)
  | tup (es : IEs) | lst (es : IEs)
  | bin (o : BOp) (a b : IE) | cmp (o : COp) (a b : IE)
  | and (a b : IE) | or (a b : IE) | not (a : IE) | ite (c a b : IE)
  | ix (a i : IE) | sl (a : IE) (lo hi : IO) | rev (a : IE)
  | fld (a : IE) (f : Str) | isi (a : IE) (k : Kd) | bi (b : Bi) (a : IE)
  | call (f : Nat) (es : IEs) | mk (c : Nat) (es : IEs)
  | me0 (m : Me) (a : IE) | me1 (m : Me) (a b : IE) | om (x : Str) (m : Nat) (a : IE) (es : IEs)
  | comp (e : IE) (t : IT) (own : List Nat) (it : II) (c : IO)
inductive IEs where
  | nil | cons (e : IE) (r : IEs)
inductive IO where
  | none | some (e : IE)
inductive II where
  | it (e : IE) | rng1 (e : IE) | rng2 (a b : IE)
end
mutual
inductive IS where
  | asg (t : IT) (e : IE) | setf (a : IE) (f : Str) (e : IE) | seti (a i e : IE)
  | expr (e : IE) | ret (e : IE) | retN | pass | brk | cont
  | ite (c : IE) (a b : ISs) | whl (c : IE) (b : ISs) | for_ (t : IT) (it : II) (b : ISs)
  | never
inductive ISs where
  | nil | cons (s : IS) (r : ISs)
end

/-! ### what they do -/
/-- the functions that may be called: a def, a class's making (its __init__), a class's method -/
def putF' (f : Str) (v : D) : List (Str × D) → List (Str × D)
  | [] => [(f, v)]
  | (g, u) :: r => if g = f then (g, v) :: r else (g, u) :: putF' f v r
structure Cl where
  call : Nat → List D → Sto → R D
  ini : Nat → Option Nat
  meth : Nat → Nat → Option Nat

def LIM : Nat := 100000
mutual
def toPW (f : Nat → Option PyData) : D → Option PyData
  | .non => some .none
  | .bl b => some (.bool b)
  | .int i => some (.int i)
  | .str x => some (.str (sOf x))
  | .tup xs => match toPWs f xs with | some ps => some (.tuple ps) | none => none
  | .loc k => f k
  | .fl _ => none
def toPWs (f : Nat → Option PyData) : List D → Option (List PyData)
  | [] => some []
  | x :: xs => match toPW f x, toPWs f xs with | some p, some ps => some (p :: ps) | _, _ => none
end
/-- as plain data; lists n deep are seen through -/
def toP (st : Sto) : Nat → D → Option PyData
  | 0 => toPW fun _ => none
  | n + 1 => toPW fun k => match st[k]? with
    | some (.lst xs) => (match toPWs (fun k => toP st n (.loc k)) xs with | some ps => some (.list ps) | none => none)
    | _ => none
def eqG (st : Sto) (a b : D) : Option Bool := match toP st 2 a, toP st 2 b with
  | some p, some q => if p.canLay0 = true ∧ q.canLay0 = true ∧ min p.depth q.depth ≤ 64 then some (PyData.eqv p q) else none
  | _, _ => none
def eqD (st : Sto) (a b : D) : Option Bool := match a, b with
  | .int i, .int j => some (decide (i = j))
  | .str i, .str j => some (decide (i = j))
  | .bl i, .bl j => some (decide (i = j))
  | .tup xs, .tup [] => some xs.isEmpty
  | .loc n, .loc k => (match st[n]?, st[k]? with
    | some (.lst xs), some (.lst []) => some xs.isEmpty
    | _, _ => eqG st (.loc n) (.loc k))
  | a, b => eqG st a b
/-- the items of a list or a tuple -/
def seqD (st : Sto) : D → Option (List D)
  | .tup xs => some xs
  | .loc n => (match st[n]? with | some (.lst xs) => some xs | _ => none)
  | .fl xs => some xs
  | _ => none
/-- the items of a list -/
def lstD (st : Sto) : D → Option (List D)
  | .loc n => (match st[n]? with | some (.lst xs) => some xs | _ => none)
  | .fl xs => some xs
  | _ => none
def ofO {α : Type} (st : Sto) : Option α → R α
  | some a => .ok a st
  | none => .stuck

def binD (o : BOp) (a b : D) (st : Sto) : R D := match o, a, b with
  | .add, .int i, .int j => .ok (.int (i + j)) st
  | .add, .str x, .str y => if x.length + y.length ≤ LIM then .ok (.str (x ++ y)) st else .stuck
  | .add, .tup x, .tup y => if x.length + y.length ≤ LIM then .ok (.tup (x ++ y)) st else .stuck
  | .add, .loc l, .loc k => (match st[l]?, st[k]? with
    | some (.lst x), some (.lst y) => if x.length + y.length ≤ LIM then .ok (.loc st.length) (st ++ [.lst (x ++ y)]) else .stuck
    | _, _ => .stuck)
  | .sub, .int i, .int j => .ok (.int (i - j)) st
  | .mul, .int i, .int j => if (-(2 ^ 64) < i ∧ i < 2 ^ 64) ∨ (-(2 ^ 64) < j ∧ j < 2 ^ 64) then .ok (.int (i * j)) st else .stuck
  | .fdiv, .int i, .int j => if 0 < j ∧ j < 1073741824 then .ok (.int (i / j)) st else .stuck
  | .mod, .int i, .int j => if 0 < j then .ok (.int (i % j)) st else .stuck
  | _, _, _ => .stuck
def cmpD (o : COp) (a b : D) (st : Sto) : R D := match o with
  | .eq => (ofO st (eqD st a b)).bind fun r st => .ok (.bl r) st
  | .ne => (ofO st (eqD st a b)).bind fun r st => .ok (.bl (!r)) st
  | .lt => (match a, b with | .int i, .int j => .ok (.bl (decide (i < j))) st | _, _ => .stuck)
  | .le => (match a, b with | .int i, .int j => .ok (.bl (decide (i ≤ j))) st | _, _ => .stuck)
  | .gt => (match a, b with | .int i, .int j => .ok (.bl (decide (j < i))) st | _, _ => .stuck)
  | .ge => (match a, b with | .int i, .int j => .ok (.bl (decide (j ≤ i))) st | _, _ => .stuck)
  | .isN => (match b with | .non => .ok (.bl (decide (a = .non))) st | _ => .stuck)
  | .notN => (match b with | .non => .ok (.bl (!decide (a = .non))) st | _ => .stuck)
  | .mem => (match a, b with | .str [c], .str y => .ok (.bl (decide (c ∈ y))) st | _, _ => .stuck)
  | .nmem => (match a, b with | .str [c], .str y => .ok (.bl (!decide (c ∈ y))) st | _, _ => .stuck)
def ixD (a i : D) (st : Sto) : R D := match i with
  | .int i => (match a with
    | .str x => if x.length ≤ LIM then (ofO st (atI x i)).bind fun c st => .ok (.str [c]) st else .stuck
    | a => (ofO st (seqD st a)).bind fun xs st => ofO st (atI xs i))
  | _ => .stuck
def cutD {α : Type} (xs : List α) (lo hi : Option Int) : List α := (xs.drop (HT.sIx xs.length 0 lo)).take (HT.sIx xs.length xs.length hi - HT.sIx xs.length 0 lo)
def slD (a : D) (lo hi : Option Int) (st : Sto) : R D := match a with
  | .str x => if x.length ≤ LIM then .ok (.str (cutD x lo hi)) st else .stuck
  | .tup xs => .ok (.tup (cutD xs lo hi)) st
  | a => (ofO st (lstD st a)).bind fun xs st => .ok (.loc st.length) (st ++ [.lst (cutD xs lo hi)])
def revD (a : D) (st : Sto) : R D := (ofO st (lstD st a)).bind fun xs st => .ok (.loc st.length) (st ++ [.lst xs.reverse])
def fldD (a : D) (f : Str) (st : Sto) : R D := match a with
  | .loc n => (match st[n]? with | some (.ins _ fs) => ofO st (fs.lookup f) | _ => .stuck)
  | _ => .stuck
def kindD (st : Sto) : D → Option (Option Kd)
  | .non => some none
  | .bl _ => some (some .bool)
  | .int _ => some (some .int)
  | .str _ => some (some .str)
  | .tup _ => some (some .tup)
  | .loc n => (match st[n]? with | some (.lst _) => some (some .lst) | _ => none)
  | .fl _ => none
def isiD (a : D) (k : Kd) (st : Sto) : R D := (ofO st (kindD st a)).bind fun t st => .ok (.bl (decide (t = some k ∨ (t = some .bool ∧ k = .int)))) st
def intsD : List D → Option (List Int)
  | [] => some []
  | .int i :: r => (match intsD r with | some l => some (i :: l) | none => none)
  | _ => none
def strsD : List D → Option (List Tx)
  | [] => some []
  | .str i :: r => (match strsD r with | some l => some (i :: l) | none => none)
  | _ => none
def digitT (x : Tx) : Option Int := match x with
  | [c] => if 48 ≤ c ∧ c ≤ 57 then some ((c : Int) - 48) else none
  | _ => none
def biD (b : Bi) (a : D) (st : Sto) : R D := match b with
  | .len => (match a with
    | .str x => if x.length ≤ LIM then .ok (.int x.length) st else .stuck
    | a => (ofO st (seqD st a)).bind fun xs st => .ok (.int xs.length) st)
  | .int => (match a with
    | .int i => .ok (.int i) st
    | .bl k => .ok (.int (if k then 1 else 0)) st
    | .str x => (ofO st (digitT x)).bind fun i st => .ok (.int i) st
    | _ => .stuck)
  | .list => (ofO st (seqD st a)).bind fun xs st => .ok (.loc st.length) (st ++ [.lst xs])
  | .tuple => (ofO st (seqD st a)).bind fun xs st => .ok (.tup xs) st
  | .str => .stuck
  | .sum => (ofO st (lstD st a)).bind fun xs st => (ofO st (intsD xs)).bind fun ns st => .ok (.int ns.sum) st
def joinT (sep : Tx) : List Tx → Tx
  | [] => []
  | [x] => x
  | x :: y :: r => x ++ sep ++ joinT sep (y :: r)
def me0D (m : Me) (a : D) (st : Sto) : R D := match m, a with
  | .pop, .loc n => (match st[n]? with
    | some (.lst xs) => (match xs.getLast? with | some x => .ok x (st.set n (.lst xs.dropLast)) | none => .stuck)
    | _ => .stuck)
  | .clear, .loc n => (match st[n]? with | some (.lst _) => .ok .non (st.set n (.lst [])) | _ => .stuck)
  | _, _ => .stuck
def me1D (m : Me) (a b : D) (st : Sto) : R D := match m, a with
  | .append, .loc n => (match st[n]? with
    | some (.lst xs) => if xs.length < LIM then .ok .non (st.set n (.lst (xs ++ [b]))) else .stuck
    | _ => .stuck)
  | .pop, .loc n => (match st[n]?, b with
    | some (.lst xs), .int i => (match ixN xs.length i with
      | some k => (match xs[k]? with | some x => if xs.length ≤ LIM then .ok x (st.set n (.lst (xs.eraseIdx k))) else .stuck | none => .stuck)
      | none => .stuck)
    | _, _ => .stuck)
  | .extend, .loc n => (match b with
    | .loc k => (match st[n]?, st[k]? with
      | some (.lst xs), some (.lst ys) => if xs.length + ys.length ≤ LIM then .ok .non (st.set n (.lst (xs ++ ys))) else .stuck
      | _, _ => .stuck)
    | _ => .stuck)
  | .join, .str sep => (ofO st (seqD st b)).bind fun xs st => (ofO st (strsD xs)).bind fun ys st =>
      if (ys.map List.length).sum + ys.length * sep.length ≤ LIM then .ok (.str (joinT sep ys)) st else .stuck
  | _, _ => .stuck
/-- whether a thing has such a method -/
def recvOk (m : Me) (st : Sto) (d : D) : Bool := match m with
  | .join => (match d with | .str _ => true | _ => false)
  | _ => decide (kindD st d = some (some .lst))
def bOf (st : Sto) : D → R Bool
  | .bl b => .ok b st
  | _ => .stuck
def iOf (st : Sto) : D → R Int
  | .int b => .ok b st
  | _ => .stuck
def asgT (ρ : Env) : IT → D → Option Env
  | .name i, d => some (ρ.set i (some d))
  | .tup is, .tup ds => if ds.length = is.length then some ((is.zip ds).foldl (fun ρ p => ρ.set p.1 (some p.2)) ρ) else none
  | _, _ => none
def wipeE (ρ : Env) : List Nat → Env
  | [] => ρ
  | v :: vs => (wipeE ρ vs).set v none
/-- what is walked: the items, and the list that must stand as it is meanwhile -/
structure Wk where
  xs : List D
  l : Option (Nat × Cell)
def Wk.stays (w : Wk) (st : Sto) : Bool := match w.l with
  | none => true
  | some (n, c) => decide (st[n]? = some c)
def wkD (a : D) (st : Sto) : R Wk := match a with
  | .tup xs => .ok ⟨xs, none⟩ st
  | .loc n => (match st[n]? with
    | some (.lst xs) => .ok ⟨xs, some (n, .lst xs)⟩ st
    | _ => .stuck)
  | .fl xs => .ok ⟨xs, none⟩ st
  | _ => .stuck
def rngW (lo : Int) (n : Nat) : Wk := ⟨(List.range n).map fun (k : Nat) => D.int (lo + (k : Int)), none⟩
def iLim (i : Int) : Prop := -(2 ^ 62) ≤ i ∧ i < 2 ^ 62
instance (i : Int) : Decidable (iLim i) := by unfold iLim; infer_instance
def compL (w : Wk) (f : D → Sto → R (Option D)) : List D → Sto → R (List D)
  | [], st => if w.stays st = true then .ok [] st else .stuck
  | x :: xs, st => if w.stays st = true then (f x st).bind fun o st => (compL w f xs st).bind fun ys st => .ok (match o with | some y => y :: ys | none => ys) st else .stuck
mutual
def ev (C : Cl) : IE → Env → Sto → R D
  | .var i, ρ, st => (match ρ[i]? with | some (some d) => .ok d st | _ => .stuck)
  | .cst d, _, st => .ok d st
  | .gl d, _, st => .ok d st
  | .tup es, ρ, st => (evs C es ρ st).bind fun ds st => if ds.length ≤ LIM then .ok (.tup ds) st else .stuck
  | .lst es, ρ, st => (evs C es ρ st).bind fun ds st => if ds.length ≤ LIM then .ok (.loc st.length) (st ++ [.lst ds]) else .stuck
  | .bin o a b, ρ, st => (ev C a ρ st).bind fun x st => (ev C b ρ st).bind fun y st => binD o x y st
  | .cmp o a b, ρ, st => (ev C a ρ st).bind fun x st => (ev C b ρ st).bind fun y st => cmpD o x y st
  | .and a b, ρ, st => (ev C a ρ st).bind fun x st => (bOf st x).bind fun k st => if k = true then (ev C b ρ st).bind fun y st => (bOf st y).bind fun j st => .ok (.bl j) st else .ok (.bl false) st
  | .or a b, ρ, st => (ev C a ρ st).bind fun x st => (bOf st x).bind fun k st => if k = true then .ok (.bl true) st else (ev C b ρ st).bind fun y st => (bOf st y).bind fun j st => .ok (.bl j) st
  | .not a, ρ, st => (ev C a ρ st).bind fun x st => (bOf st x).bind fun k st => .ok (.bl (!k)) st
  | .ite c a b, ρ, st => (ev C c ρ st).bind fun x st => (bOf st x).bind fun k st => if k = true then ev C a ρ st else ev C b ρ st
  | .ix a i, ρ, st => (ev C a ρ st).bind fun x st => (ev C i ρ st).bind fun y st => ixD x y st
  | .sl a lo hi, ρ, st => (ev C a ρ st).bind fun x st => (evO C lo ρ st).bind fun l st => (evO C hi ρ st).bind fun h st => slD x l h st
  | .rev a, ρ, st => (ev C a ρ st).bind fun x st => revD x st
  | .fld a f, ρ, st => (ev C a ρ st).bind fun x st => fldD x f st
  | .isi a k, ρ, st => (ev C a ρ st).bind fun x st => isiD x k st
  | .bi b a, ρ, st => (ev C a ρ st).bind fun x st => biD b x st
  | .call f es, ρ, st => (evs C es ρ st).bind fun ds st => C.call f ds st
  | .mk c es, ρ, st => (evs C es ρ st).bind fun ds st => match C.ini c with
    | some f => (C.call f (.loc st.length :: ds) (st ++ [.ins c []])).bind fun r st' => if r = .non then .ok (.loc st.length) st' else .stuck
    | none => .stuck
  | .me0 m a, ρ, st => (ev C a ρ st).bind fun x st => if recvOk m st x = true then me0D m x st else .stuck
  | .me1 m a b, ρ, st => (ev C a ρ st).bind fun x st => if recvOk m st x = true then (ev C b ρ st).bind fun y st => me1D m x y st else .stuck
  | .om nm m a es, ρ, st => (ev C a ρ st).bind fun x st => match x with
    | .loc n => (match st[n]? with
      | some (.ins c fs) => (match C.meth c m, fs.lookup nm with
        | some f, none => (evs C es ρ st).bind fun ds st => C.call f (.loc n :: ds) st
        | _, _ => .stuck)
      | _ => .stuck)
    | _ => .stuck
  | .comp e t own it c, ρ, st => (evI C it ρ st).bind fun w st =>
    ((compL w (fun x st => match asgT (wipeE ρ own) t x with
      | some ρ' => (evC C c ρ' st).bind fun k st => if k = true then (ev C e ρ' st).bind fun y st => .ok (some y) st else .ok none st
      | none => .stuck) w.xs st).noex).bind fun ys st => if ys.length ≤ LIM then .ok (.loc st.length) (st ++ [.lst ys]) else .stuck
def evs (C : Cl) : IEs → Env → Sto → R (List D)
  | .nil, _, st => .ok [] st
  | .cons e r, ρ, st => (ev C e ρ st).bind fun x st => (evs C r ρ st).bind fun xs st => .ok (x :: xs) st
def evO (C : Cl) : IO → Env → Sto → R (Option Int)
  | .none, _, st => .ok none st
  | .some e, ρ, st => (ev C e ρ st).bind fun x st => (iOf st x).bind fun i st => .ok (some i) st
/-- a comprehension's test -/
def evC (C : Cl) : IO → Env → Sto → R Bool
  | .none, _, st => .ok true st
  | .some e, ρ, st => (ev C e ρ st).bind fun x st => bOf st x
def evI (C : Cl) : II → Env → Sto → R Wk
  | .it e, ρ, st => (ev C e ρ st).bind fun x st => wkD x st
  | .rng1 e, ρ, st => (ev C e ρ st).bind fun x st => (iOf st x).bind fun i st => if iLim i then .ok (rngW 0 i.toNat) st else .stuck
  | .rng2 a b, ρ, st => (ev C a ρ st).bind fun x st => (ev C b ρ st).bind fun y st => (iOf st x).bind fun i st => (iOf st y).bind fun j st => if iLim i ∧ iLim j then .ok (rngW i (j - i).toNat) st else .stuck
end

/-- one turn of a comprehension -/
def turnC (C : Cl) (t : IT) (own : List Nat) (c : IO) (e : IE) (ρ : Env) (x : D) (st : Sto) : R (Option D) := match asgT (wipeE ρ own) t x with
      | some ρ' => (evC C c ρ' st).bind fun k st => if k = true then (ev C e ρ' st).bind fun y st => .ok (some y) st else .ok none st
      | none => .stuck

/-- where a statement ends -/
inductive Fl where
  | nx | bk | ct | rt (d : D)
inductive SR where
  | ok (f : Fl) (ρ : Env) (st : Sto) | exc (e : Ex) (ρ : Env) (st : Sto) | stuck
def R.sbind {α : Type} (ρ : Env) : R α → (α → Sto → SR) → SR
  | .ok a st, f => f a st
  | .exc e st, _ => .exc e ρ st
  | .stuck, _ => .stuck
def SR.then : SR → (Env → Sto → SR) → SR
  | .ok .nx ρ st, f => f ρ st
  | r, _ => r
/-- the end of a loop's turn -/
def SR.turn : SR → (Env → Sto → SR) → SR
  | .ok .nx ρ st, f => f ρ st
  | .ok .ct ρ st, f => f ρ st
  | .ok .bk ρ st, _ => .ok .nx ρ st
  | r, _ => r
def loopW (t : Env → Sto → R Bool) (b : Env → Sto → SR) : Nat → Env → Sto → SR
  | 0, _, _ => .stuck
  | n + 1, ρ, st => (t ρ st).sbind ρ fun k st => if k = true then (b ρ st).turn (loopW t b n) else .ok .nx ρ st
def loopF (w : Wk) (t : IT) (b : Env → Sto → SR) : List D → Env → Sto → SR
  | [], ρ, st => if w.stays st = true then .ok .nx ρ st else .stuck
  | x :: xs, ρ, st => if w.stays st = true then (match asgT ρ t x with
    | some ρ' => (b ρ' st).turn (loopF w t b xs)
    | none => .stuck) else .stuck
def evT (C : Cl) (e : IE) (ρ : Env) (st : Sto) : R Bool := (ev C e ρ st).bind fun x st => bOf st x
mutual
def evS (C : Cl) (F : Nat) : IS → Env → Sto → SR
  | .asg t e, ρ, st => (ev C e ρ st).sbind ρ fun x st => match asgT ρ t x with | some ρ' => .ok .nx ρ' st | none => .stuck
  | .setf a f e, ρ, st => (ev C e ρ st).sbind ρ fun y st => (ev C a ρ st).sbind ρ fun x st => match x with
    | .loc n => (match st[n]? with | some (.ins c fs) => if fs.length < 1000 then .ok .nx ρ (st.set n (.ins c (putF' f y fs))) else .stuck | _ => .stuck)
    | _ => .stuck
  | .seti a i e, ρ, st => (ev C e ρ st).sbind ρ fun y st => (ev C a ρ st).sbind ρ fun x st => (ev C i ρ st).sbind ρ fun k st => match x, k with
    | .loc n, .int i => (match st[n]? with
      | some (.lst xs) => (match ixN xs.length i with | some j => .ok .nx ρ (st.set n (.lst (xs.set j y))) | none => .stuck)
      | _ => .stuck)
    | _, _ => .stuck
  | .expr e, ρ, st => (ev C e ρ st).sbind ρ fun _ st => .ok .nx ρ st
  | .ret e, ρ, st => (ev C e ρ st).sbind ρ fun x st => .ok (.rt x) ρ st
  | .retN, ρ, st => .ok (.rt .non) ρ st
  | .pass, ρ, st => .ok .nx ρ st
  | .brk, ρ, st => .ok .bk ρ st
  | .cont, ρ, st => .ok .ct ρ st
  | .ite c a b, ρ, st => (evT C c ρ st).sbind ρ fun k st => if k = true then evSs C F a ρ st else evSs C F b ρ st
  | .whl c b, ρ, st => loopW (evT C c) (evSs C F b) F ρ st
  | .for_ t it b, ρ, st => (evI C it ρ st).sbind ρ fun w st => loopF w t (evSs C F b) w.xs ρ st
  | .never, _, _ => .stuck
def evSs (C : Cl) (F : Nat) : ISs → Env → Sto → SR
  | .nil, ρ, st => .ok .nx ρ st
  | .cons s r, ρ, st => (evS C F s ρ st).then (evSs C F r)
end

/-! ### a program -/
structure FnIR where
  np : Nat
  nl : Nat
  body : ISs
structure Prog where
  fns : List FnIR
  ini : Nat → Option Nat
  meth : Nat → Nat → Option Nat
mutual
/-- no place at n or further is told -/
def clD (n : Nat) : D → Bool
  | .tup xs => clDs n xs
  | .loc k => decide (k < n)
  | .fl xs => clDs n xs
  | _ => true
def clDs (n : Nat) : List D → Bool
  | [] => true
  | x :: xs => clD n x && clDs n xs
end
def clC (n : Nat) : Cell → Bool
  | .lst xs => clDs n xs
  | .ins _ fs => clDs n (fs.map (·.2))
/-- behind a call: what was made in it is forgotten, if nothing leads there -/
def finish (st0 : Sto) : R D → R D
  | .ok d st => if clD 0 d = true ∧ ∀ i, i < st0.length → st[i]? = st0[i]? ∨ (st[i]?.map (clC st0.length)) = some true then .ok d (st.take st0.length) else .ok d st
  | r => r
def runB : SR → R D
  | .ok .nx _ st => .ok .non st
  | .ok (.rt d) _ st => .ok d st
  | .ok _ _ _ => .stuck
  | .exc e _ st => .exc e st
  | .stuck => .stuck
abbrev Fn := Nat → List D → Sto → R D
def Prog.step (pr : Prog) (F : Nat) (C : Cl) : Fn := fun f ds st => match pr.fns[f]? with
  | some fi => if ds.length = fi.np then finish st (runB (evSs C F fi.body (ds.map some ++ List.replicate (fi.nl - fi.np) none) st)) else .stuck
  | none => .stuck
def Prog.call (pr : Prog) (F : Nat) : Nat → Fn
  | 0 => fun _ _ _ => .stuck
  | k + 1 => pr.step F ⟨pr.call F k, pr.ini, pr.meth⟩
def Prog.cl (pr : Prog) (F k : Nat) : Cl := ⟨pr.call F k, pr.ini, pr.meth⟩

/-! ### that a piece stands in the text -/
structure CC where
  fns : List (Str × Nat)
  cls : List (Str × Nat)
  gls : List (Str × D)
  bls : List Str
  mns : List (Str × Nat)
  flds : List Str
def visB (sc : Scope) (x : Str) : Bool := match sc.names.lookup x with
  | some .local => true | some .cell => true | some .free => true | _ => false
def glB (sc : Scope) (x : Str) : Bool := decide (sc.names.lookup x = some .globalImplicit) && decide ((x == ("__debug__" : Str)) = false)
def isStar : Expr → Bool
  | .Starred .. => true
  | _ => false
def isComp : Expr → Bool
  | .ListComp .. => true | .SetComp .. => true | .DictComp .. => true
  | _ => false
def isSlice : Expr → Bool
  | .Slice .. => true
  | _ => false
def isSetD : Expr → Bool
  | .Set .. => true
  | _ => false
def baseOk : Expr → Bool
  | .Call _ [] _ _ => false
  | _ => true
def cstOk : D → Const → Bool
  | .non, .none => true
  | .bl a, .bool b => a == b
  | .int a, .int b => decide (a = b)
  | .str x, .str y => decide (y = sOf x)
  | _, _ => false
def opOk : BOp → Operator → Bool
  | .add, .Add => true | .sub, .Sub => true | .mul, .Mult => true | .fdiv, .FloorDiv => true | .mod, .Mod => true
  | _, _ => false
def copOk : COp → CmpOp → Bool
  | .eq, .Eq => true | .ne, .NotEq => true | .lt, .Lt => true | .le, .LtE => true | .gt, .Gt => true | .ge, .GtE => true
  | .isN, .Is => true | .notN, .IsNot => true | .mem, .In => true | .nmem, .NotIn => true
  | _, _ => false
def kdName : Kd → String
  | .bool => "bool" | .int => "int" | .str => "str" | .tup => "tuple" | .lst => "list"
def biName : Bi → Str
  | .len => "len" | .int => "int" | .list => "list" | .tuple => "tuple" | .str => "str" | .sum => "sum"
def meName : Me → Str
  | .append => "append" | .pop => "pop" | .extend => "extend" | .join => "join" | .clear => "clear"
def blB (cc : CC) (sc : Scope) (x : Str) : Bool := glB sc x && decide (x ∈ cc.bls) && decide (x ≠ ("__name__" : Str))
def IT.slots : IT → List Nat
  | .name i => [i]
  | .tup is => is
def tgB (N : List Str) (sc : Scope) (fnS : Str → Bool) (i : Nat) : Expr → Bool
  | .Name x _ => decide (N[i]? = some x) && (match sc.names.lookup x with | some .local => true | some .cell => fnS x | _ => false)
  | _ => false
def tgsB (N : List Str) (sc : Scope) (fnS : Str → Bool) : List Nat → List Expr → Bool
  | [], [] => true
  | i :: is, e :: es => tgB N sc fnS i e && tgsB N sc fnS is es
  | _, _ => false
def chkT (N : List Str) (sc : Scope) (fnS : Str → Bool) : IT → Expr → Bool
  | .name i, e => tgB N sc fnS i e
  | .tup is, .Tuple es _ _ => tgsB N sc fnS is es
  | _, _ => false
mutual
def chkE (cc : CC) (N : List Str) : Scope → IE → Expr → Bool
  | sc, .var i, e => (match e with | .Name x _ => decide (N[i]? = some x) && visB sc x && decide ((x == ("__debug__" : Str)) = false) && decide ((x == ("__classdict__" : Str)) = false) | _ => false)
  | _, .cst d, e => (match e with | .Constant c _ _ => cstOk d c | .UnaryOp .USub (.Constant (.int j) _ _) _ => decide (d = .int (-j)) | _ => false)
  | sc, .gl d, e => (match e with | .Name x _ => glB sc x && decide (cc.gls.lookup x = some d) | _ => false)
  | sc, .tup es, e => (match e with | .Tuple xs _ _ => chkEs cc N sc es xs | _ => false)
  | sc, .lst es, e => (match e with | .List xs _ => chkEs cc N sc es xs | _ => false)
  | sc, .bin o a b, e => (match e with | .BinOp x op y _ => opOk o op && chkE cc N sc a x && chkE cc N sc b y | _ => false)
  | sc, .cmp o a b, e => (match e with | .Compare x [op] [y] _ => copOk o op && (!behindInMarks op y) && chkE cc N sc a x && chkE cc N sc b y | _ => false)
  | sc, .and a b, e => (match e with
    | .BoolOp .And [x, y] _ => chkE cc N sc a x && chkE cc N sc b y
    | .BoolOp .And (x :: y :: z :: r) pos => chkE cc N sc a x && chkE cc N sc b (.BoolOp .And (y :: z :: r) pos)
    | _ => false)
  | sc, .or a b, e => (match e with
    | .BoolOp .Or [x, y] _ => chkE cc N sc a x && chkE cc N sc b y
    | .BoolOp .Or (x :: y :: z :: r) pos => chkE cc N sc a x && chkE cc N sc b (.BoolOp .Or (y :: z :: r) pos)
    | _ => false)
  | sc, .not a, e => (match e with | .UnaryOp .Not x _ => chkE cc N sc a x | _ => false)
  | sc, .ite c a b, e => (match e with | .IfExp t x y _ => chkE cc N sc c t && chkE cc N sc a x && chkE cc N sc b y | _ => false)
  | sc, .ix a i, e => (match e with | .Subscript x y _ => (!isSlice y) && chkE cc N sc a x && chkE cc N sc i y | _ => false)
  | sc, .sl a lo hi, e => (match e with | .Subscript x (.Slice l h none _) _ => chkE cc N sc a x && chkO cc N sc lo l && chkO cc N sc hi h | _ => false)
  | sc, .rev a, e => (match e with | .Subscript x (.Slice none none (some (.UnaryOp .USub (.Constant (.int 1) _ _) _)) _) _ => chkE cc N sc a x | _ => false)
  | sc, .fld a f, e => (match e with | .Attribute x g _ => decide (f = g) && decide (f ∈ cc.flds) && baseOk x && chkE cc N sc a x | _ => false)
  | sc, .isi a k, e => (match e with | .Call (.Name nm _) [x, .Name t _] [] _ => decide (nm = "isinstance") && decide (t = Str.ofString (kdName k)) && blB cc sc nm && blB cc sc t && (!isStar x) && chkE cc N sc a x | _ => false)
  | sc, .bi b a, e => (match e with | .Call (.Name nm _) [x] [] _ => decide (nm = biName b) && blB cc sc nm && (!isStar x) && chkE cc N sc a x | _ => false)
  | sc, .call f es, e => (match e with | .Call (.Name nm _) xs [] _ => decide (cc.fns.lookup nm = some f) && glB sc nm && chkEs cc N sc es xs | _ => false)
  | sc, .mk c es, e => (match e with | .Call (.Name nm _) xs [] _ => decide (cc.cls.lookup nm = some c) && glB sc nm && chkEs cc N sc es xs | _ => false)
  | sc, .me0 m a, e => (match e with | .Call (.Attribute x nm ap) [] [] p => decide (nm = meName m) && decide (m = .pop ∨ m = .clear) && baseOk x && (ap.endLine == p.line) && chkE cc N sc a x | _ => false)
  | sc, .me1 m a b, e => (match e with | .Call (.Attribute x nm ap) [y] [] p => decide (nm = meName m) && decide (m ≠ .clear) && baseOk x && (!isStar y) && (ap.endLine == p.line) && chkE cc N sc a x && chkE cc N sc b y | _ => false)
  | sc, .om x' m a es, e => (match e with | .Call (.Attribute x nm ap) xs [] p => decide (x' = nm) && decide (cc.mns.lookup nm = some m) && baseOk x && (ap.endLine == p.line) && decide (xs.length < 20) && chkE cc N sc a x && chkEs cc N sc es xs | _ => false)
  | sc, .comp e t own it c, x => (match x with
    | .ListComp elt [⟨tg, iter, ifs, k⟩] scope _ => decide (k = 0) && blkC N sc scope (own.map fun i => (N.getD i "", i)) && (t.slots.all fun i => decide (i ∈ own)) && chkT N (relS scope sc) (fun x => scope.names.lookup x == some .cell) t tg && chkI cc N sc it iter &&
        (!isSetD iter) && chkC cc N (relS scope sc) c ifs && chkE cc N (relS scope sc) e elt
    | _ => false)
def chkEs (cc : CC) (N : List Str) : Scope → IEs → List Expr → Bool
  | _, .nil, es => (match es with | [] => true | _ => false)
  | sc, .cons a r, es => (match es with | e :: es => (!isStar e) && chkE cc N sc a e && chkEs cc N sc r es | _ => false)
def chkO (cc : CC) (N : List Str) : Scope → IO → Option Expr → Bool
  | _, .none, e => (match e with | none => true | _ => false)
  | sc, .some a, e => (match e with | some e => chkE cc N sc a e | _ => false)
def chkC (cc : CC) (N : List Str) : Scope → IO → List Expr → Bool
  | _, .none, e => (match e with | [] => true | _ => false)
  | sc, .some a, e => (match e with | [e] => chkE cc N sc a e | _ => false)
def chkI (cc : CC) (N : List Str) : Scope → II → Expr → Bool
  | sc, .it a, e => chkE cc N sc a e
  | sc, .rng1 a, e => (match e with | .Call (.Name nm _) [x] [] _ => decide (nm = "range") && blB cc sc nm && (!isStar x) && chkE cc N sc a x | _ => false)
  | sc, .rng2 a b, e => (match e with | .Call (.Name nm _) [x, y] [] _ => decide (nm = "range") && blB cc sc nm && (!isStar x) && (!isStar y) && chkE cc N sc a x && chkE cc N sc b y | _ => false)
end
def bothTup : Expr → Expr → Bool
  | .Tuple .., .Tuple .. => true
  | _, _ => false
def setComp (sc : Scope) : Expr → Expr → Bool
  | .Name y py, .ListComp _ _ scope pos => decide (sc.names.lookup y = some .local) && (py.line == pos.line) && !(scope.names.any fun (n, k) => n == y && (k == .local || k == .cell))
  | _, v => !isComp v
mutual
def chkS (cc : CC) (N : List Str) (sc : Scope) : IS → Stmt → Bool
  | .asg t e, s => (match s with | .Assign [tg] v _ => (!bothTup tg v) && setComp sc tg v && chkT N sc (fun _ => true) t tg && chkE cc N sc e v | _ => false)
  | .setf a f e, s => (match s with | .Assign [.Attribute o g _] v _ => decide (f = g) && decide (f ∈ cc.flds) && chkE cc N sc a o && chkE cc N sc e v | _ => false)
  | .seti a i e, s => (match s with | .Assign [.Subscript o k _] v _ => (!isSlice k) && chkE cc N sc a o && chkE cc N sc i k && chkE cc N sc e v | _ => false)
  | .expr e, s => (match s with | .Expr v _ => (!isComp v) && chkE cc N sc e v | _ => false)
  | .ret e, s => (match s with | .Return (some v) _ => chkE cc N sc e v | _ => false)
  | .retN, s => (match s with | .Return none _ => true | _ => false)
  | .pass, s => (match s with | .Pass _ => true | _ => false)
  | .brk, s => (match s with | .Break _ => true | _ => false)
  | .cont, s => (match s with | .Continue _ => true | _ => false)
  | .ite c a b, s => (match s with | .If t xs ys _ => chkE cc N sc c t && chkSs cc N sc a xs && chkSs cc N sc b ys | _ => false)
  | .whl c b, s => (match s with | .While t xs [] _ => chkE cc N sc c t && chkSs cc N sc b xs | _ => false)
  | .for_ t it b, s => (match s with | .For tg iter xs [] _ => chkT N sc (fun _ => true) t tg && chkI cc N sc it iter && (!isSetD iter) && chkSs cc N sc b xs | _ => false)
  | .never, _ => true
def chkSs (cc : CC) (N : List Str) (sc : Scope) : ISs → List Stmt → Bool
  | .nil, ss => (match ss with | [] => true | _ => false)
  | .cons a r, ss => (match ss with | s :: ss => chkS cc N sc a s && chkSs cc N sc r ss | _ => false)
end
end Z
namespace Z
open PySem L2
/-! ### what stands for what -/
structure Wd where
  P : Program
  w : World
  K : PySem.W.Frag
  mg : Str → Option Value
  base : Heap
  pr : Prog
  F : Nat
  fa : Nat → Addr
  fd : Nat → FuncData
  ps : Nat → List Str
  ca : Nat → Addr
  ncl : Nat
def SqF (K : PySem.W.Frag) (H : Hp) (a : Addr) (vs : List V) : Prop := (∃ o, H a = some (.frz o (.lst vs))) ∨
  ∃ (o : Obj) (its : Array Value) (n : Nat), K.lookup a = some o ∧ o.cls = .type "list" ∧ o.dict = none ∧ o.data = .seq its n ∧ its.size ≤ sizeLine ∧ Vals vs its.toList
theorem SqF.l {K : PySem.W.Frag} {H : Hp} {a : Addr} {vs : List V} (h : SqF K H a vs) : SqL K H a vs := by
  rcases h with h | h
  · exact .inl (.inr h)
  · exact .inr h
mutual
def Rp (K : PySem.W.Frag) (H : Hp) (m : List Addr) : D → V → Prop
  | .non, v => v = .non
  | .bl b, v => v = .bl b
  | .int i, v => v = .int i
  | .str x, v => v = .str (sOf x)
  | .tup ds, v => ∃ a vs, v = .ref a ∧ SqT K H a vs ∧ Rps K H m ds vs
  | .loc n, v => ∃ a, m[n]? = some a ∧ v = .ref a
  | .fl ds, v => ∃ a vs, v = .ref a ∧ SqF K H a vs ∧ Rps K H m ds vs
def Rps (K : PySem.W.Frag) (H : Hp) (m : List Addr) : List D → List V → Prop
  | [], vs => vs = []
  | d :: ds, vs => ∃ v vs', vs = v :: vs' ∧ Rp K H m d v ∧ Rps K H m ds vs'
end
theorem Rps.len {K : PySem.W.Frag} {H : Hp} {m : List Addr} : ∀ {ds : List D} {vs : List V}, Rps K H m ds vs → vs.length = ds.length
  | [], vs, h => by rw [Rps] at h; subst h; rfl
  | d :: ds, vs, h => by
    rw [Rps] at h
    obtain ⟨v, vs', rfl, _, h⟩ := h
    rw [List.length_cons, List.length_cons, Rps.len h]
theorem Rps.get {K : PySem.W.Frag} {H : Hp} {m : List Addr} : ∀ {ds : List D} {vs : List V} {i : Nat} {d : D}, Rps K H m ds vs → ds[i]? = some d → ∃ v, vs[i]? = some v ∧ Rp K H m d v
  | [], _, _, _, _, e => by simp at e
  | d :: ds, vs, i, d', h, e => by
    rw [Rps] at h
    obtain ⟨v, vs', rfl, h1, h2⟩ := h
    cases i with
    | zero => simp at e; subst e; exact ⟨v, rfl, h1⟩
    | succ i => simpa using Rps.get h2 (by simpa using e)
theorem Rps.append {K : PySem.W.Frag} {H : Hp} {m : List Addr} : ∀ {ds es : List D} {vs us : List V}, Rps K H m ds vs → Rps K H m es us → Rps K H m (ds ++ es) (vs ++ us)
  | [], es, vs, us, h, g => by rw [Rps] at h; subst h; exact g
  | d :: ds, es, vs, us, h, g => by
    rw [Rps] at h
    obtain ⟨v, vs', rfl, h1, h2⟩ := h
    rw [List.cons_append, List.cons_append, Rps]
    exact ⟨v, _, rfl, h1, Rps.append h2 g⟩
theorem Rps.drop {K : PySem.W.Frag} {H : Hp} {m : List Addr} : ∀ (n : Nat) {ds : List D} {vs : List V}, Rps K H m ds vs → Rps K H m (ds.drop n) (vs.drop n)
  | 0, _, _, h => h
  | n + 1, [], vs, h => by rw [Rps] at h; subst h; simp [Rps]
  | n + 1, d :: ds, vs, h => by
    rw [Rps] at h
    obtain ⟨v, vs', rfl, h1, h2⟩ := h
    exact Rps.drop n h2
theorem Rps.take {K : PySem.W.Frag} {H : Hp} {m : List Addr} : ∀ (n : Nat) {ds : List D} {vs : List V}, Rps K H m ds vs → Rps K H m (ds.take n) (vs.take n)
  | 0, _, _, h => by simp [Rps]
  | n + 1, [], vs, h => by rw [Rps] at h; subst h; simp [Rps]
  | n + 1, d :: ds, vs, h => by
    rw [Rps] at h
    obtain ⟨v, vs', rfl, h1, h2⟩ := h
    rw [List.take_succ_cons, List.take_succ_cons, Rps]
    exact ⟨v, _, rfl, h1, Rps.take n h2⟩
theorem Rps.set {K : PySem.W.Frag} {H : Hp} {m : List Addr} {d : D} {v : V} (r : Rp K H m d v) : ∀ (n : Nat) {ds : List D} {vs : List V}, Rps K H m ds vs → Rps K H m (ds.set n d) (vs.set n v)
  | _, [], vs, h => by rw [Rps] at h; subst h; simp [Rps]
  | 0, e :: ds, vs, h => by
    rw [Rps] at h
    obtain ⟨u, vs', rfl, h1, h2⟩ := h
    simp only [List.set_cons_zero]; rw [Rps]
    exact ⟨v, _, rfl, r, h2⟩
  | n + 1, e :: ds, vs, h => by
    rw [Rps] at h
    obtain ⟨u, vs', rfl, h1, h2⟩ := h
    simp only [List.set_cons_succ]; rw [Rps]
    exact ⟨u, _, rfl, h1, Rps.set r n h2⟩
theorem Rps.erase {K : PySem.W.Frag} {H : Hp} {m : List Addr} : ∀ (n : Nat) {ds : List D} {vs : List V}, Rps K H m ds vs → Rps K H m (ds.eraseIdx n) (vs.eraseIdx n)
  | _, [], vs, h => by rw [Rps] at h; subst h; simp [Rps]
  | 0, e :: ds, vs, h => by
    rw [Rps] at h
    obtain ⟨u, vs', rfl, h1, h2⟩ := h
    simpa using h2
  | n + 1, e :: ds, vs, h => by
    rw [Rps] at h
    obtain ⟨u, vs', rfl, h1, h2⟩ := h
    simp only [List.eraseIdx_cons_succ]; rw [Rps]
    exact ⟨u, _, rfl, h1, Rps.erase n h2⟩
theorem Rps.rev {K : PySem.W.Frag} {H : Hp} {m : List Addr} : ∀ {ds : List D} {vs : List V}, Rps K H m ds vs → Rps K H m ds.reverse vs.reverse
  | [], vs, h => by rw [Rps] at h; subst h; simp [Rps]
  | d :: ds, vs, h => by
    rw [Rps] at h
    obtain ⟨v, vs', rfl, h1, h2⟩ := h
    rw [List.reverse_cons, List.reverse_cons]
    exact (Rps.rev h2).append (by rw [Rps]; exact ⟨v, [], rfl, h1, by rw [Rps]⟩)
theorem Rps.dropLast {K : PySem.W.Frag} {H : Hp} {m : List Addr} {ds : List D} {vs : List V} (h : Rps K H m ds vs) : Rps K H m ds.dropLast vs.dropLast := by
  rw [List.dropLast_eq_take, List.dropLast_eq_take, h.len]
  exact h.take _
theorem Rps.one {K : PySem.W.Frag} {H : Hp} {m : List Addr} {d : D} {v : V} (h : Rp K H m d v) : Rps K H m [d] [v] := by
  rw [Rps]; exact ⟨v, [], rfl, h, by rw [Rps]⟩

/-- the fields of an instance -/
def Fsr (K : PySem.W.Frag) (H : Hp) (m : List Addr) (fs : List (Str × D)) (gs : List (Str × V)) : Prop := gs.map (·.1) = fs.map (·.1) ∧ Rps K H m (fs.map (·.2)) (gs.map (·.2))
def CellOk (W : Wd) (H : Hp) (m : List Addr) (a : Addr) : Cell → Prop
  | .lst ds => ∃ vs, H a = some (.lst vs) ∧ Rps W.K H m ds vs
  | .ins c fs => ∃ dx gs, c < W.ncl ∧ H a = some (.ins (W.ca c) dx gs) ∧ Fsr W.K H m fs gs
structure Sim (W : Wd) (H : Hp) (m : List Addr) (st : Sto) : Prop where
  len : m.length = st.length
  nd : m.Nodup
  ok : ∀ (i : Nat) (c : Cell) (a : Addr), st[i]? = some c → m[i]? = some a → CellOk W H m a c
structure Ext (m m' : List Addr) (H H' : Hp) : Prop where
  pre : ∃ l, m' = m ++ l
  keep : ∀ a o, H a = some o → a ∉ m → H' a = some o ∧ a ∉ m'
theorem Ext.refl {m : List Addr} {H : Hp} : Ext m m H H := ⟨⟨[], by simp⟩, fun _ _ h n => ⟨h, n⟩⟩
theorem Ext.at {m m' : List Addr} {H H' : Hp} (e : Ext m m' H H') {i : Nat} {a : Addr} (h : m[i]? = some a) : m'[i]? = some a := by
  obtain ⟨l, rfl⟩ := e.pre
  rw [List.getElem?_append_left (List.getElem?_eq_some_iff.mp h).1]; exact h
theorem Ext.len {m m' : List Addr} {H H' : Hp} (e : Ext m m' H H') : m.length ≤ m'.length := by
  obtain ⟨l, rfl⟩ := e.pre
  rw [List.length_append]; omega
theorem Ext.trans {m m1 m2 : List Addr} {H H1 H2 : Hp} (a : Ext m m1 H H1) (b : Ext m1 m2 H1 H2) : Ext m m2 H H2 := by
  refine ⟨?_, fun x o h n => ?_⟩
  · obtain ⟨l, rfl⟩ := a.pre
    obtain ⟨l', rfl⟩ := b.pre
    exact ⟨l ++ l', by rw [List.append_assoc]⟩
  · obtain ⟨h1, n1⟩ := a.keep x o h n
    exact b.keep x o h1 n1
/-- what stands at a place of the store -/
def isM : HO → Bool
  | .lst _ => true | .ins _ _ _ => true
  | _ => false
theorem Sim.mu {W : Wd} {H : Hp} {m : List Addr} {st : Sto} (s : Sim W H m st) {a : Addr} (h : a ∈ m) : ∃ o, H a = some o ∧ isM o = true := by
  obtain ⟨i, hi⟩ := List.getElem?_of_mem h
  have hl : i < st.length := by rw [← s.len]; exact (List.getElem?_eq_some_iff.mp hi).1
  have q := s.ok i st[i] a (List.getElem?_eq_getElem hl) hi
  cases e : st[i] with
  | lst ds => rw [e] at q; obtain ⟨vs, h1, _⟩ := q; exact ⟨_, h1, rfl⟩
  | ins c fs => rw [e] at q; obtain ⟨dx, gs, _, h1, _⟩ := q; exact ⟨_, h1, rfl⟩
theorem Sim.nin {W : Wd} {H : Hp} {m : List Addr} {st : Sto} (s : Sim W H m st) {a : Addr} {o : HO} (h : H a = some o) (n : isM o = false) : a ∉ m := fun z => by
  obtain ⟨o', h', n'⟩ := s.mu z
  rw [h] at h'; cases h'; rw [n] at n'; cases n'
theorem sqT_up {W : Wd} {H H' : Hp} {m m' : List Addr} {st : Sto} (s : Sim W H m st) (e : Ext m m' H H') {a : Addr} {vs : List V} (h : SqT W.K H a vs) : SqT W.K H' a vs := by
  rcases h with (h | ⟨o, h⟩) | h
  · exact .inl (.inl (e.keep a _ h (s.nin h rfl)).1)
  · exact .inl (.inr ⟨o, (e.keep a _ h (s.nin h rfl)).1⟩)
  · exact .inr h
theorem sqF_up {W : Wd} {H H' : Hp} {m m' : List Addr} {st : Sto} (s : Sim W H m st) (e : Ext m m' H H') {a : Addr} {vs : List V} (h : SqF W.K H a vs) : SqF W.K H' a vs := by
  rcases h with ⟨o, h⟩ | h
  · exact .inl ⟨o, (e.keep a _ h (s.nin h rfl)).1⟩
  · exact .inr h
section
variable {K : PySem.W.Frag} {H H' : Hp} {m m' : List Addr}
mutual
theorem Rp.mono (ht : ∀ a vs, SqT K H a vs → SqT K H' a vs) (hf : ∀ a vs, SqF K H a vs → SqF K H' a vs) (hm : ∀ (n : Nat) (a : Addr), m[n]? = some a → m'[n]? = some a) : ∀ {d : D} {v : V}, Rp K H m d v → Rp K H' m' d v
  | .non, v, h => by rw [Rp] at h ⊢; exact h
  | .bl _, v, h => by rw [Rp] at h ⊢; exact h
  | .int _, v, h => by rw [Rp] at h ⊢; exact h
  | .str _, v, h => by rw [Rp] at h ⊢; exact h
  | .tup ds, v, h => by
    rw [Rp] at h ⊢
    obtain ⟨a, vs, rfl, h1, h2⟩ := h
    exact ⟨a, vs, rfl, ht a vs h1, Rps.mono ht hf hm h2⟩
  | .loc n, v, h => by
    rw [Rp] at h ⊢
    obtain ⟨a, h1, rfl⟩ := h
    exact ⟨a, hm n a h1, rfl⟩
  | .fl ds, v, h => by
    rw [Rp] at h ⊢
    obtain ⟨a, vs, rfl, h1, h2⟩ := h
    exact ⟨a, vs, rfl, hf a vs h1, Rps.mono ht hf hm h2⟩
theorem Rps.mono (ht : ∀ a vs, SqT K H a vs → SqT K H' a vs) (hf : ∀ a vs, SqF K H a vs → SqF K H' a vs) (hm : ∀ (n : Nat) (a : Addr), m[n]? = some a → m'[n]? = some a) : ∀ {ds : List D} {vs : List V}, Rps K H m ds vs → Rps K H' m' ds vs
  | [], vs, h => by rw [Rps] at h ⊢; exact h
  | d :: ds, vs, h => by
    rw [Rps] at h ⊢
    obtain ⟨v, vs', rfl, h1, h2⟩ := h
    exact ⟨v, vs', rfl, Rp.mono ht hf hm h1, Rps.mono ht hf hm h2⟩
end
end
section
variable {W : Wd} {H H' : Hp} {m m' : List Addr} {st : Sto}
theorem Rp.up (s : Sim W H m st) (e : Ext m m' H H') {d : D} {v : V} (h : Rp W.K H m d v) : Rp W.K H' m' d v := h.mono (fun _ _ => sqT_up s e) (fun _ _ => sqF_up s e) (fun _ _ => e.at)
theorem Rps.up (s : Sim W H m st) (e : Ext m m' H H') {ds : List D} {vs : List V} (h : Rps W.K H m ds vs) : Rps W.K H' m' ds vs := h.mono (fun _ _ => sqT_up s e) (fun _ _ => sqF_up s e) (fun _ _ => e.at)
theorem Fsr.up (s : Sim W H m st) (e : Ext m m' H H') {fs : List (Str × D)} {gs : List (Str × V)} (h : Fsr W.K H m fs gs) : Fsr W.K H' m' fs gs := ⟨h.1, Rps.up s e h.2⟩
theorem CellOk.up (s : Sim W H m st) (e : Ext m m' H H') {a : Addr} (ha : H' a = H a) {c : Cell} (h : CellOk W H m a c) : CellOk W H' m' a c := by
  cases c with
  | lst ds =>
    obtain ⟨vs, h1, h2⟩ := h
    exact ⟨vs, ha.trans h1, h2.up s e⟩
  | ins c fs =>
    obtain ⟨dx, gs, hc, h1, h2⟩ := h
    exact ⟨dx, gs, hc, ha.trans h1, h2.up s e⟩
/-- a new thing is laid, which the store doesn't hold -/
theorem Sim.laid (s : Sim W H m st) {p : Addr} (hp : H p = none) (o : HO) : Sim W (upd H p o) m st ∧ Ext m m H (upd H p o) := by
  have e : Ext m m H (upd H p o) := ⟨⟨[], by simp⟩, fun a u h n => ⟨by rw [upd_ne (ne_of_none h hp)]; exact h, n⟩⟩
  refine ⟨⟨s.len, s.nd, fun i c a h1 h2 => (s.ok i c a h1 h2).up s e ?_⟩, e⟩
  obtain ⟨u, hu, _⟩ := s.mu (List.mem_of_getElem? h2)
  exact upd_ne (ne_of_none hu hp)
/-- a new thing is laid, which the store holds -/
theorem Sim.push (s : Sim W H m st) {p : Addr} (hp : H p = none) {o : HO} {c : Cell} (hc : CellOk W (upd H p o) (m ++ [p]) p c) : Sim W (upd H p o) (m ++ [p]) (st ++ [c]) ∧ Ext m (m ++ [p]) H (upd H p o) := by
  have np : ∀ a ∈ m, a ≠ p := fun a ha z => by
    obtain ⟨u, hu, _⟩ := s.mu ha
    rw [z, hp] at hu; cases hu
  have e : Ext m (m ++ [p]) H (upd H p o) := ⟨⟨[p], rfl⟩, fun a u h n => ⟨by rw [upd_ne (ne_of_none h hp)]; exact h, by
    simp only [List.mem_append, List.mem_singleton, not_or]
    exact ⟨n, ne_of_none h hp⟩⟩⟩
  refine ⟨⟨by simp [s.len], ?_, fun i c' a h1 h2 => ?_⟩, e⟩
  · rw [List.nodup_append]
    refine ⟨s.nd, by simp, fun a ha b hb => ?_⟩
    simp only [List.mem_singleton] at hb
    rw [hb]; exact np a ha
  · by_cases hi : i < st.length
    · rw [List.getElem?_append_left hi] at h1
      rw [List.getElem?_append_left (by rw [s.len]; exact hi)] at h2
      exact (s.ok i c' a h1 h2).up s e (upd_ne (np a (List.mem_of_getElem? h2)))
    · have hi' : i = st.length := by
        have := (List.getElem?_eq_some_iff.mp h1).1
        simp at this; omega
      subst hi'
      rw [List.getElem?_append_right (Nat.le_refl _)] at h1
      rw [List.getElem?_append_right (by rw [s.len]; exact Nat.le_refl _)] at h2
      simp [s.len] at h1 h2
      subst h1; subst h2
      exact hc
/-- a thing of the store changes -/
theorem Sim.write (s : Sim W H m st) {n : Nat} {a : Addr} (ha : m[n]? = some a) {o : HO} {c : Cell} (hc : CellOk W (upd H a o) m a c) : Sim W (upd H a o) m (st.set n c) ∧ Ext m m H (upd H a o) := by
  have e : Ext m m H (upd H a o) := ⟨⟨[], by simp⟩, fun b u h nn => ⟨by
    rw [upd_ne fun z => nn (by rw [z]; exact List.mem_of_getElem? ha)]; exact h, nn⟩⟩
  refine ⟨⟨by simp [s.len], s.nd, fun i c' b h1 h2 => ?_⟩, e⟩
  by_cases hi : i = n
  · subst hi
    rw [ha] at h2; cases h2
    rw [List.getElem?_set_self (by rw [← s.len]; exact (List.getElem?_eq_some_iff.mp ha).1)] at h1
    cases h1
    exact hc
  · rw [List.getElem?_set_ne (Ne.symm hi)] at h1
    refine (s.ok i c' b h1 h2).up s e (upd_ne fun z => hi ?_)
    subst z
    obtain ⟨h3, e3⟩ := List.getElem?_eq_some_iff.mp h2
    obtain ⟨h4, e4⟩ := List.getElem?_eq_some_iff.mp ha
    exact (List.getElem_inj s.nd).mp (e3.trans e4.symm)
theorem Sim.at (s : Sim W H m st) {n : Nat} {c : Cell} (h : st[n]? = some c) : ∃ a, m[n]? = some a ∧ CellOk W H m a c := by
  have hl : n < m.length := by rw [s.len]; exact (List.getElem?_eq_some_iff.mp h).1
  exact ⟨m[n], List.getElem?_eq_getElem hl, s.ok n c _ h (List.getElem?_eq_getElem hl)⟩
/-- a list that the store doesn't hold changes -/
theorem sqT_off {K : PySem.W.Frag} {D0 : Addr} {acc : List V} {o : HO} (hD : H D0 = some (.lst acc)) {a : Addr} {vs : List V} (h : SqT K H a vs) : SqT K (upd H D0 o) a vs := by
  rcases h with (h | ⟨u, h⟩) | h
  · exact .inl (.inl (by rw [upd_ne fun z => by rw [z, hD] at h; cases h]; exact h))
  · exact .inl (.inr ⟨u, by rw [upd_ne fun z => by rw [z, hD] at h; cases h]; exact h⟩)
  · exact .inr h
theorem sqF_off {K : PySem.W.Frag} {D0 : Addr} {acc : List V} {o : HO} (hD : H D0 = some (.lst acc)) {a : Addr} {vs : List V} (h : SqF K H a vs) : SqF K (upd H D0 o) a vs := by
  rcases h with ⟨u, h⟩ | h
  · exact .inl ⟨u, by rw [upd_ne fun z => by rw [z, hD] at h; cases h]; exact h⟩
  · exact .inr h
theorem Rp.off {K : PySem.W.Frag} {D0 : Addr} {acc : List V} {o : HO} (hD : H D0 = some (.lst acc)) {d : D} {v : V} (h : Rp K H m d v) : Rp K (upd H D0 o) m d v := h.mono (fun _ _ => sqT_off hD) (fun _ _ => sqF_off hD) fun _ _ z => z
theorem Rps.off {K : PySem.W.Frag} {D0 : Addr} {acc : List V} {o : HO} (hD : H D0 = some (.lst acc)) {d : List D} {v : List V} (h : Rps K H m d v) : Rps K (upd H D0 o) m d v := h.mono (fun _ _ => sqT_off hD) (fun _ _ => sqF_off hD) fun _ _ z => z
theorem Sim.off (s : Sim W H m st) {D0 : Addr} {acc : List V} {o : HO} (hD : H D0 = some (.lst acc)) (hn : D0 ∉ m) : Sim W (upd H D0 o) m st := by
  refine ⟨s.len, s.nd, fun i c a h1 h2 => ?_⟩
  have hne : a ≠ D0 := fun z => hn (by rw [← z]; exact List.mem_of_getElem? h2)
  have q := s.ok i c a h1 h2
  cases c with
  | lst ds =>
    obtain ⟨vs, h3, h4⟩ := q
    exact ⟨vs, by rw [upd_ne hne]; exact h3, h4.off hD⟩
  | ins c fs =>
    obtain ⟨dx, gs, hc, h3, h4⟩ := q
    exact ⟨dx, gs, hc, by rw [upd_ne hne]; exact h3, h4.1, h4.2.off hD⟩
theorem Ext.off {H1 : Hp} {m1 : List Addr} (e : Ext m1 m H1 H) {D0 : Addr} {o : HO} (hD : H1 D0 = none) : Ext m1 m H1 (upd H D0 o) := ⟨e.pre, fun a u h n => by
  obtain ⟨h2, n2⟩ := e.keep a u h n
  exact ⟨by rw [upd_ne (ne_of_none h hD)]; exact h2, n2⟩⟩
/-- it comes to be held -/
theorem Sim.adopt (s : Sim W H m st) {D0 : Addr} {vs : List V} {xs : List D} (hD : H D0 = some (.lst vs)) (hn : D0 ∉ m) (r : Rps W.K H m xs vs) : Sim W H (m ++ [D0]) (st ++ [.lst xs]) := by
  have up : ∀ {ds : List D} {us : List V}, Rps W.K H m ds us → Rps W.K H (m ++ [D0]) ds us := fun h => h.mono (fun _ _ z => z) (fun _ _ z => z) fun n a z => by
    rw [List.getElem?_append_left (List.getElem?_eq_some_iff.mp z).1]; exact z
  refine ⟨by simp [s.len], ?_, fun i c' a h1 h2 => ?_⟩
  · rw [List.nodup_append]
    refine ⟨s.nd, by simp, fun a ha b hb => ?_⟩
    simp only [List.mem_singleton] at hb
    rw [hb]; exact fun z => hn (by rw [← z]; exact ha)
  · by_cases hi : i < st.length
    · rw [List.getElem?_append_left hi] at h1
      rw [List.getElem?_append_left (by rw [s.len]; exact hi)] at h2
      have q := s.ok i c' a h1 h2
      cases c' with
      | lst ds => obtain ⟨us, h3, h4⟩ := q; exact ⟨us, h3, up h4⟩
      | ins c fs => obtain ⟨dx, gs, hc, h3, h4⟩ := q; exact ⟨dx, gs, hc, h3, h4.1, up h4.2⟩
    · have hi' : i = st.length := by
        have := (List.getElem?_eq_some_iff.mp h1).1
        simp at this; omega
      subst hi'
      rw [List.getElem?_append_right (Nat.le_refl _)] at h1
      rw [List.getElem?_append_right (by rw [s.len]; exact Nat.le_refl _)] at h2
      simp [s.len] at h1 h2
      subst h1; subst h2
      exact ⟨vs, hD, up r⟩
theorem Ext.adopt {H1 : Hp} {m1 : List Addr} (e : Ext m1 m H1 H) {D0 : Addr} (hD : H1 D0 = none) : Ext m1 (m ++ [D0]) H1 H := by
  refine ⟨?_, fun a u h n => ?_⟩
  · obtain ⟨l, rfl⟩ := e.pre
    exact ⟨l ++ [D0], by rw [List.append_assoc]⟩
  · obtain ⟨h2, n2⟩ := e.keep a u h n
    refine ⟨h2, ?_⟩
    simp only [List.mem_append, List.mem_singleton, not_or]
    exact ⟨n2, ne_of_none h hD⟩
end
end Z
namespace Z
open PySem L2
/-! ### what an answer promises -/
def ExR (W : Wd) (H : Hp) (m : List Addr) (e : Ex) (dx : Option Addr) : Prop := match e.f with
  | none => dx = none
  | some (f, d) => ∃ a v, dx = some a ∧ H a = some (.xd [(f, v)]) ∧ Rp W.K H m d v
def Pg {α : Type} (W : Wd) (E : XK) (m : List Addr) (H : Hp) (r : R α) (k : α → List Addr → Sto → Hp → Prop) : Prop := match r with
  | .ok a st => ∀ H' m', Ext m m' H H' → Sim W H' m' st → k a m' st H'
  | .exc e st => ∀ dx H' m', Ext m m' H H' → Sim W H' m' st → ExR W H' m' e dx → E (.ref (W.ca e.c)) dx H'
  | .stuck => False
/-- .. a value -/
def kD (W : Wd) (Q : VK) : D → List Addr → Sto → Hp → Prop := fun d m _ H => ∀ v, Rp W.K H m d v → Q v H
section
variable {W : Wd} {E : XK} {m m' : List Addr} {H H' : Hp} {α β : Type}
theorem Pg.up {r : R α} {k : α → List Addr → Sto → Hp → Prop} (e : Ext m m' H H') (h : Pg W E m H r k) : Pg W E m' H' r k := by
  cases r with
  | ok a st => exact fun H2 m2 e2 s2 => h H2 m2 (e.trans e2) s2
  | exc x st => exact fun dx H2 m2 e2 s2 => h dx H2 m2 (e.trans e2) s2
  | stuck => exact h
theorem Pg.bind {r : R α} {f : α → Sto → R β} {k : β → List Addr → Sto → Hp → Prop} (h : Pg W E m H (r.bind f) k) : Pg W E m H r fun a m' st' H' => Pg W E m' H' (f a st') k := by
  cases r with
  | ok a st => exact fun H2 m2 e2 s2 => Pg.up e2 h
  | exc x st => exact h
  | stuck => exact h
theorem Pg.imp {r : R α} {k k' : α → List Addr → Sto → Hp → Prop} (h : Pg W E m H r k) (q : ∀ a m' st' H', Ext m m' H H' → Sim W H' m' st' → k a m' st' H' → k' a m' st' H') : Pg W E m H r k' := by
  cases r with
  | ok a st => exact fun H2 m2 e2 s2 => q a m2 st H2 e2 s2 (h H2 m2 e2 s2)
  | exc x st => exact h
  | stuck => exact h
theorem Pg.now {a : α} {st : Sto} {k : α → List Addr → Sto → Hp → Prop} (h : Pg W E m H (.ok a st) k) (s : Sim W H m st) : k a m st H := h H m Ext.refl s
theorem Pg.go {a : α} {st : Sto} {k : α → List Addr → Sto → Hp → Prop} (h : Pg W E m H (.ok a st) k) (e : Ext m m' H H') (s : Sim W H' m' st) : k a m' st H' := h H' m' e s
theorem Pg.ite {c : Prop} [Decidable c] {a : R α} {k : α → List Addr → Sto → Hp → Prop} (h : Pg W E m H (if c then a else .stuck) k) : c ∧ Pg W E m H a k := by
  by_cases hc : c
  · rw [if_pos hc] at h; exact ⟨hc, h⟩
  · rw [if_neg hc] at h; exact h.elim
theorem Pg.ofO {o : Option α} {st : Sto} {f : α → Sto → R β} {k : β → List Addr → Sto → Hp → Prop} (h : Pg W E m H ((ofO st o).bind f) k) : ∃ a, o = some a ∧ Pg W E m H (f a st) k := by
  cases o with
  | some a => exact ⟨a, rfl, h⟩
  | none => exact h.elim
end

/-! ### names -/
def EnvR (W : Wd) (H : Hp) (m : List Addr) (ρ : Env) (σ : L2.St) : Prop := ρ.length = σ.length ∧ ∀ (i : Nat) (d : D), ρ[i]? = some (some d) → ∃ v, σ[i]? = some (some v) ∧ Rp W.K H m d v
section
variable {W : Wd} {m m' : List Addr} {H H' : Hp} {ρ : Env} {σ : L2.St} {st : Sto}
theorem EnvR.up (s : Sim W H m st) (e : Ext m m' H H') (h : EnvR W H m ρ σ) : EnvR W H' m' ρ σ := ⟨h.1, fun i d q => by
  obtain ⟨v, h1, h2⟩ := h.2 i d q
  exact ⟨v, h1, h2.up s e⟩⟩
theorem EnvR.set (h : EnvR W H m ρ σ) {i : Nat} {d : D} {v : V} (r : Rp W.K H m d v) : EnvR W H m (ρ.set i (some d)) (σ.set i (some v)) := by
  refine ⟨by simp [h.1], fun j e q => ?_⟩
  by_cases hj : j = i
  · subst hj
    have hl : j < ρ.length := by
      have := (List.getElem?_eq_some_iff.mp q).1
      simpa using this
    rw [List.getElem?_set_self hl] at q
    cases q
    exact ⟨v, by rw [List.getElem?_set_self (by rw [← h.1]; exact hl)], r⟩
  · rw [List.getElem?_set_ne (Ne.symm hj)] at q ⊢
    exact h.2 j e q
theorem EnvR.set_none (h : EnvR W H m ρ σ) {i : Nat} : EnvR W H m (ρ.set i none) (σ.set i none) := by
  refine ⟨by simp [h.1], fun j e q => ?_⟩
  by_cases hj : j = i
  · subst hj
    have hl : j < ρ.length := by
      have := (List.getElem?_eq_some_iff.mp q).1
      simpa using this
    rw [List.getElem?_set_self hl] at q
    cases q
  · rw [List.getElem?_set_ne (Ne.symm hj)] at q ⊢
    exact h.2 j e q
theorem EnvR.wipe (h : EnvR W H m ρ σ) : ∀ vs : List Nat, EnvR W H m (wipeE ρ vs) (L2.wipe σ vs)
  | [] => h
  | v :: vs => by
    unfold wipeE L2.wipe
    exact (EnvR.wipe h vs).set_none
end

/-! ### the readings -/
def tE (W : Wd) (E : XK) (f : Env → Sto → R D) : TE := fun σ H Q => ∃ m ρ st, Sim W H m st ∧ EnvR W H m ρ σ ∧ Pg W E m H (f ρ st) (kD W Q)
abbrev kB (Q : Bool → Hp → Prop) : Bool → List Addr → Sto → Hp → Prop := fun b _ _ H => Q b H
def tT (W : Wd) (E : XK) (f : Env → Sto → R Bool) : TT := fun σ H Q => ∃ m ρ st, Sim W H m st ∧ EnvR W H m ρ σ ∧ Pg W E m H (f ρ st) (kB Q)
def tA (W : Wd) (E : XK) (f : Env → Sto → R (List D)) : TA := fun σ H Q => ∃ m ρ st, Sim W H m st ∧ EnvR W H m ρ σ ∧ Pg W E m H (f ρ st) fun ds m' _ H' => ∀ vs, Rps W.K H' m' ds vs → Q vs H'
def tO (W : Wd) (E : XK) (f : Env → Sto → R (Option Int)) : TO := fun σ H Q => ∃ m ρ st, Sim W H m st ∧ EnvR W H m ρ σ ∧ Pg W E m H (f ρ st) fun o _ _ H' => Q o H'
theorem PE.weak {X : Cx} {e : Expr} {t t' : TE} (h : PE X e t) (q : ∀ σ H Q, t' σ H Q → t σ H Q) : PE X e t' := ⟨fun pins s σ H Q I w => h.run pins s σ H Q I (q σ H Q w)⟩
theorem PT.weak {X : Cx} {e : Expr} {t t' : TT} (h : PT X e t) (q : ∀ σ H Q, t' σ H Q → t σ H Q) : PT X e t' := ⟨fun pins s σ H Q I w => h.run pins s σ H Q I (q σ H Q w)⟩
theorem PW.weak {X : Cx} {e : Expr} {t t' : TT} (h : PW X e t) (q : ∀ σ H Q, t' σ H Q → t σ H Q) : PW X e t' := ⟨fun wh pins s σ H Q I w => h.run wh pins s σ H Q I (q σ H Q w)⟩
theorem PA.weak {X : Cx} {e : List Expr} {t t' : TA} (h : PA X e t) (q : ∀ σ H Q, t' σ H Q → t σ H Q) : PA X e t' := ⟨fun p pins s σ H Q I w => h.run p pins s σ H Q I (q σ H Q w)⟩
theorem PO.weak {X : Cx} {e : Option Expr} {t t' : TO} (h : PO X e t) (q : ∀ σ H Q, t' σ H Q → t σ H Q) : PO X e t' := ⟨fun pins s σ H Q I w => h.run pins s σ H Q I (q σ H Q w)⟩
theorem PS.weak {X : Cx} {e : Stmt} {t t' : TS} (h : PS X e t) (q : ∀ D σ H, t' D σ H → t D σ H) : PS X e t' := ⟨fun pins s σ H D I w => h.run pins s σ H D I (q D σ H w)⟩
theorem PSs.weak {X : Cx} {e : List Stmt} {t t' : TS} (h : PSs X e t) (q : ∀ D σ H, t' D σ H → t D σ H) : PSs X e t' := ⟨fun pins s σ H D I w => h.run pins s σ H D I (q D σ H w)⟩
section
variable {W : Wd} {E : XK} {f g : Env → Sto → R D} {σ : L2.St} {H : Hp}
/-- one operand, then something by its value -/
theorem tE.one {h : D → Sto → R D} {Q : VK} {k : V → Hp → Prop} (w : tE W E (fun ρ st => (f ρ st).bind h) σ H Q)
    (q : ∀ m st H d v, Sim W H m st → Rp W.K H m d v → Pg W E m H (h d st) (kD W Q) → k v H) : tE W E f σ H k := by
  obtain ⟨m, ρ, st, s, r, p⟩ := w
  exact ⟨m, ρ, st, s, r, p.bind.imp fun d m' st' H' _ s' p' v rv => q m' st' H' d v s' rv p'⟩
/-- two operands -/
theorem tE.two {h : D → D → Sto → R D} {Q : VK} {k : V → V → Hp → Prop} (w : tE W E (fun ρ st => (f ρ st).bind fun x st => (g ρ st).bind fun y st => h x y st) σ H Q)
    (q : ∀ m st H d v e u, Sim W H m st → Rp W.K H m d v → Rp W.K H m e u → Pg W E m H (h d e st) (kD W Q) → k v u H) : tE W E f σ H fun x H1 => tE W E g σ H1 fun y H2 => k x y H2 := by
  obtain ⟨m, ρ, st, s, r, p⟩ := w
  refine ⟨m, ρ, st, s, r, p.bind.imp fun d m1 st1 H1 e1 s1 p1 v rv => ?_⟩
  exact ⟨m1, ρ, st1, s1, r.up s e1, p1.bind.imp fun e m2 st2 H2 e2 s2 p2 u ru => q m2 st2 H2 d v e u s2 (rv.up s1 e2) ru p2⟩
end

/-! ### the operators by values -/
section
variable {W : Wd} {E : XK} {X : Cx} {m : List Addr} {H : Hp} {st : Sto} {Q : VK}
theorem lim_le {n : Nat} (h : n ≤ LIM) : n ≤ sizeLine := by rw [sizeLine_eq]; exact Nat.le_trans h (by decide)
theorem lim_lt {n : Nat} (h : n < LIM) : n < sizeLine := by rw [sizeLine_eq]; exact Nat.lt_of_lt_of_le h (by decide)
theorem sOf_len (x : Tx) : (sOf x).length = x.length := by show x.toArray.size = x.length; simp
theorem sOf_app (x y : Tx) : sOf x ++ sOf y = sOf (x ++ y) := by
  show Str.mk (x.toArray ++ y.toArray) = Str.mk (x ++ y).toArray
  simp
theorem kD_now {d : D} {v : V} (h : Pg W E m H (.ok d st) (kD W Q)) (s : Sim W H m st) (r : Rp W.K H m d v) : Q v H := h.now s v r
theorem Rp.tup_ref {K : PySem.W.Frag} {ds : List D} {v : V} (h : Rp K H m (.tup ds) v) : ∃ a vs, v = .ref a ∧ SqT K H a vs ∧ Rps K H m ds vs := by rw [Rp] at h; exact h
/-- a new tuple at p -/
theorem new_tup (s : Sim W H m st) {p : Addr} (hp : H p = none) {ds : List D} {vs : List V} (r : Rps W.K H m ds vs) (h : Pg W E m H (.ok (.tup ds) st) (kD W Q)) : Q (.ref p) (upd H p (.tup vs)) := by
  obtain ⟨s', e⟩ := s.laid hp (.tup vs)
  exact h.go e s' _ (by rw [Rp]; exact ⟨p, vs, rfl, SqT.of upd_same, r.up s e⟩)
/-- a new list at p -/
theorem new_lst (s : Sim W H m st) {p : Addr} (hp : H p = none) {ds : List D} {vs : List V} (r : Rps W.K H m ds vs) (h : Pg W E m H (.ok (.loc st.length) (st ++ [.lst ds])) (kD W Q)) : Q (.ref p) (upd H p (.lst vs)) := by
  have e0 : Ext m (m ++ [p]) H (upd H p (.lst vs)) := by
    refine ⟨⟨[p], rfl⟩, fun a u h n => ⟨by rw [upd_ne (ne_of_none h hp)]; exact h, ?_⟩⟩
    simp only [List.mem_append, List.mem_singleton, not_or]
    exact ⟨n, ne_of_none h hp⟩
  obtain ⟨s', e⟩ := s.push hp (c := .lst ds) (o := .lst vs) ⟨vs, upd_same, r.up s e0⟩
  refine h.go e s' (.ref p) ?_
  rw [Rp]
  refine ⟨p, ?_, rfl⟩
  rw [List.getElem?_append_right (by rw [s.len]; exact Nat.le_refl _), s.len]
  simp

/-- o by values -/
def rBin (W : Wd) (o : BOp) : R2 := fun x y H Q => match o with
  | .add => (∃ i j, x = .int i ∧ y = .int j ∧ Q (.int (i + j)) H) ∨ (∃ i j, x = .str i ∧ y = .str j ∧ i.length + j.length ≤ sizeLine ∧ Q (.str (i ++ j)) H) ∨ rCatA W.K x y H Q ∨ rCat x y H Q
  | .sub => ∃ i j, x = .int i ∧ y = .int j ∧ Q (.int (i - j)) H
  | .mul => ∃ i j, x = .int i ∧ y = .int j ∧ CMul i j ∧ Q (.int (i * j)) H
  | .fdiv => ∃ i j, x = .int i ∧ y = .int j ∧ CDiv i j ∧ Q (.int (i / j)) H
  | .mod => ∃ i j, x = .int i ∧ y = .int j ∧ 0 < j ∧ Q (.int (i % j)) H
theorem op_rBin {o : BOp} {op : Operator} (h : opOk o op = true) (hK : X.K = W.K) : OpR X (binaryOp op) (rBin W o) := by
  cases o <;> cases op <;> simp [opOk] at h
  · have q := (op_add (X := X)).or ((op_add_str (X := X)).or ((op_catA (X := X)).or (op_cat (X := X))))
    rw [hK] at q
    exact q
  · exact op_sub
  · exact op_mul
  · exact op_fdiv
  · exact op_mod
theorem bin_ok {o : BOp} {d e : D} {v u : V} (s : Sim W H m st) (r1 : Rp W.K H m d v) (r2 : Rp W.K H m e u) (h : Pg W E m H (binD o d e st) (kD W Q)) : rBin W o v u H Q := by
  unfold binD at h
  split at h
  · rw [Rp] at r1 r2; subst r1 r2
    exact .inl ⟨_, _, rfl, rfl, kD_now h s (by rw [Rp])⟩
  · obtain ⟨c, h⟩ := h.ite
    rw [Rp] at r1 r2; subst r1 r2
    exact .inr (.inl ⟨_, _, rfl, rfl, by rw [sOf_len, sOf_len]; exact lim_le c, kD_now h s (by rw [Rp, sOf_app])⟩)
  · obtain ⟨c, h⟩ := h.ite
    obtain ⟨a, vs, rfl, h1, h2⟩ := r1.tup_ref
    obtain ⟨b, us, rfl, g1, g2⟩ := r2.tup_ref
    refine .inr (.inr (.inl ⟨a, b, vs, us, rfl, rfl, h1, g1, by rw [h2.len, g2.len]; exact lim_le c, fun e => ?_, fun _ e => ?_, fun _ _ p hp => new_tup s hp (h2.append g2) h⟩))
    · subst e
      refine kD_now h s ?_
      have := h2.append g2
      rw [Rp]; exact ⟨b, us, rfl, g1, this⟩
    · subst e
      refine kD_now h s ?_
      have := h2.append g2
      rw [List.append_nil] at this
      rw [Rp]; exact ⟨a, vs, rfl, h1, this⟩
  · split at h
    · rename_i ha hb
      obtain ⟨c, h⟩ := h.ite
      obtain ⟨a, k1, vs, k2, k3⟩ := s.at ha
      obtain ⟨b, l1, us, l2, l3⟩ := s.at hb
      rw [Rp] at r1 r2
      obtain ⟨a', ea, rfl⟩ := r1
      obtain ⟨b', eb, rfl⟩ := r2
      rw [k1] at ea; cases ea
      rw [l1] at eb; cases eb
      exact .inr (.inr (.inr ⟨a, b, vs, us, rfl, rfl, k2, l2, by rw [k3.len, l3.len]; exact lim_le c, fun p hp => new_lst s hp (k3.append l3) h⟩))
    · exact h.elim
  · rw [Rp] at r1 r2; subst r1 r2
    exact ⟨_, _, rfl, rfl, kD_now h s (by rw [Rp])⟩
  · obtain ⟨c, h⟩ := h.ite
    rw [Rp] at r1 r2; subst r1 r2
    exact ⟨_, _, rfl, rfl, c, kD_now h s (by rw [Rp])⟩
  · obtain ⟨c, h⟩ := h.ite
    rw [Rp] at r1 r2; subst r1 r2
    exact ⟨_, _, rfl, rfl, c, kD_now h s (by rw [Rp])⟩
  · obtain ⟨c, h⟩ := h.ite
    rw [Rp] at r1 r2; subst r1 r2
    exact ⟨_, _, rfl, rfl, c, kD_now h s (by rw [Rp])⟩
  · exact h.elim
end
end Z
namespace Z
open PySem L2
section
variable {W : Wd} {E : XK} {X : Cx} {m : List Addr} {H : Hp} {st : Sto} {Q : VK}
/-! ### comparisons by values -/
mutual
theorem toPW_ok {f : Nat → Option PyData} (hf : ∀ k p v, f k = some p → Rp W.K H m (.loc k) v → Dp W.K H v p) : ∀ {d : D} {p : PyData} {v : V}, toPW f d = some p → Rp W.K H m d v → Dp W.K H v p
  | .non, p, v, e, r => by rw [toPW] at e; rw [Rp] at r; cases e; subst r; exact .non
  | .bl b, p, v, e, r => by rw [toPW] at e; rw [Rp] at r; cases e; subst r; exact .bl b
  | .int b, p, v, e, r => by rw [toPW] at e; rw [Rp] at r; cases e; subst r; exact .int b
  | .str b, p, v, e, r => by rw [toPW] at e; rw [Rp] at r; cases e; subst r; exact .str _
  | .tup xs, p, v, e, r => by
    rw [toPW] at e
    obtain ⟨a, vs, rfl, h1, h2⟩ := r.tup_ref
    split at e
    · rename_i ps q
      cases e
      exact .tup h1 (toPWs_ok hf q h2)
    · cases e
  | .loc k, p, v, e, r => by rw [toPW] at e; exact hf k p v e r
  | .fl _, p, v, e, r => by rw [toPW] at e; cases e
theorem toPWs_ok {f : Nat → Option PyData} (hf : ∀ k p v, f k = some p → Rp W.K H m (.loc k) v → Dp W.K H v p) : ∀ {ds : List D} {ps : List PyData} {vs : List V}, toPWs f ds = some ps → Rps W.K H m ds vs → DpAll W.K H vs ps
  | [], ps, vs, e, r => by rw [toPWs] at e; rw [Rps] at r; cases e; subst r; exact .nil
  | d :: ds, ps, vs, e, r => by
    rw [toPWs] at e
    rw [Rps] at r
    obtain ⟨v, vs', rfl, h1, h2⟩ := r
    split at e
    · rename_i p ps q1 q2
      cases e
      exact .cons (toPW_ok hf q1 h1) (toPWs_ok hf q2 h2)
    · cases e
end
theorem toP_ok (s : Sim W H m st) : ∀ (n : Nat) {d : D} {p : PyData} {v : V}, toP st n d = some p → Rp W.K H m d v → Dp W.K H v p
  | 0, d, p, v, e, r => toPW_ok (f := fun _ => none) (fun k p v z => by cases z) e r
  | n + 1, d, p, v, e, r => by
    rw [toP] at e
    refine toPW_ok (fun k p v z rz => ?_) e r
    rw [Rp] at rz
    obtain ⟨a, ha, rfl⟩ := rz
    split at z
    · rename_i xs hx
      split at z
      · rename_i ps q
        cases z
        obtain ⟨b, hb, vs, h1, h2⟩ := s.at hx
        rw [ha] at hb; cases hb
        exact .lst (SqL.of h1) (toPWs_ok (fun k p v z' rz' => toP_ok s n z' rz') q h2)
      · cases z
    · cases z
def rEqM (K : PySem.W.Frag) (neg : Bool) : R2 := fun x y H Q => ∃ d e, Dp K H x d ∧ Dp K H y e ∧ d.canLay0 = true ∧ e.canLay0 = true ∧ min d.depth e.depth ≤ 64 ∧ Q (.bl (if neg then !PyData.eqv d e else PyData.eqv d e)) H
theorem op_eqM (hu : X.A.units + 64 < cLine) : OpR X (compareOp .Eq) (rEqM X.K false) := by
  intro pins s σ H x y v u Q I rx ry h
  obtain ⟨d, e, hd, he, sd, se, hm, q⟩ := h
  obtain ⟨as, r1⟩ := Dp.reads I d x v hd rx
  obtain ⟨bs, r2⟩ := Dp.reads I e y u he ry
  exact SeqAt.compareEq_reads r1 r2 sd se (by omega) ⟨.bl _, H, I, rfl, q⟩
theorem op_neM (hu : X.A.units + 64 < cLine) : OpR X (compareOp .NotEq) (rEqM X.K true) := by
  intro pins s σ H x y v u Q I rx ry h
  obtain ⟨d, e, hd, he, sd, se, hm, q⟩ := h
  obtain ⟨as, r1⟩ := Dp.reads I d x v hd rx
  obtain ⟨bs, r2⟩ := Dp.reads I e y u he ry
  exact SeqAt.compareNe_reads r1 r2 sd se (by omega) ⟨.bl _, H, I, rfl, q⟩
/-- with nothing on the right -/
def rEqE (K : PySem.W.Frag) (neg : Bool) : R2 := fun x y H Q => ∃ a b xs, x = .ref a ∧ y = .ref b ∧ ((SqT K H a xs ∧ SqT K H b []) ∨ (SqL K H a xs ∧ SqL K H b [])) ∧ Q (.bl (if neg then !xs.isEmpty else xs.isEmpty)) H
theorem op_eqE (hu : X.A.units < cLine) : OpR X (compareOp .Eq) (rEqE X.K false) := by
  intro pins s σ H x y v u Q I rx ry h
  obtain ⟨a, b, xs, rfl, rfl, h, q⟩ := h
  cases rx; cases ry
  rcases h with ⟨h1, h2⟩ | ⟨h1, h2⟩
  · obtain ⟨its, r1, p1, _⟩ := I.tuple h1
    obtain ⟨its2, r2, p2, _⟩ := I.tuple h2
    cases r2
    have z := SeqAt.RcAt.tuples (e := fun _ => true) (show s.heap.IsTuple a its.toArray from p1) (show s.heap.IsTuple b ([] : List Value).toArray from p2) hu (fun j h1 h2 => absurd h2 (by simp))
    refine z _ _ _ _ ⟨.bl _, H, I, ?_, q⟩
    cases r1 <;> rfl
  · obtain ⟨its, r1, p1, _⟩ := I.list h1
    obtain ⟨its2, r2, p2, _⟩ := I.list h2
    cases r2
    cases r1 with
    | nil =>
      have z := SeqAt.RcAt.lists (e := fun _ => true) p1.isList p2.isList rfl hu (fun j h1 h2 => absurd h2 (by simp))
      exact z _ _ _ _ ⟨.bl _, H, I, rfl, q⟩
    | cons r rs =>
      have z := SeqAt.RcAt.lists_lengths p1.isList p2.isList (by simp) hu
      exact z _ _ _ _ ⟨.bl _, H, I, rfl, q⟩
theorem op_neE (hu : X.A.units < cLine) : OpR X (compareOp .NotEq) (rEqE X.K true) := by
  intro pins s σ H x y v u Q I rx ry h
  obtain ⟨a, b, xs, rfl, rfl, h, q⟩ := h
  cases rx; cases ry
  rcases h with ⟨h1, h2⟩ | ⟨h1, h2⟩
  · obtain ⟨its, r1, p1, _⟩ := I.tuple h1
    obtain ⟨its2, r2, p2, _⟩ := I.tuple h2
    cases r2
    have z := SeqAt.RcNeAt.tuples (e := fun _ => true) (show s.heap.IsTuple a its.toArray from p1) (show s.heap.IsTuple b ([] : List Value).toArray from p2) hu (fun j h1 h2 => absurd h2 (by simp))
    refine z _ _ _ _ ⟨.bl _, H, I, ?_, q⟩
    cases r1 <;> rfl
  · obtain ⟨its, r1, p1, _⟩ := I.list h1
    obtain ⟨its2, r2, p2, _⟩ := I.list h2
    cases r2
    cases r1 with
    | nil =>
      have z := SeqAt.RcNeAt.lists (e := fun _ => true) p1.isList p2.isList rfl hu (fun j h1 h2 => absurd h2 (by simp))
      exact z _ _ _ _ ⟨.bl _, H, I, rfl, q⟩
    | cons r rs =>
      have z := SeqAt.RcNeAt.lists_lengths p1.isList p2.isList (by simp) hu
      exact z _ _ _ _ ⟨.bl _, H, I, rfl, q⟩
def rEqA (K : PySem.W.Frag) (neg : Bool) : R2 := fun x y H Q => rEqM K neg x y H Q ∨ ((scal x y = true ∧ Q (.bl (if neg then !decide (x = y) else decide (x = y))) H) ∨ rEqE K neg x y H Q)
theorem op_eqA (hu : X.A.units + 64 < cLine) : OpR X (compareOp .Eq) (rEqA X.K false) := (op_eqM hu).or ((op_eq (X := X)).or (op_eqE (by omega)))
theorem op_neA (hu : X.A.units + 64 < cLine) : OpR X (compareOp .NotEq) (rEqA X.K true) := (op_neM hu).or ((op_ne (X := X)).or (op_neE (by omega)))
theorem isEmpty_rel {xs : List D} {vs : List V} (h : Rps W.K H m xs vs) : vs.isEmpty = xs.isEmpty := by
  have := h.len
  cases xs <;> cases vs <;> simp_all
theorem sOf_inj {x y : Tx} (h : sOf x = sOf y) : x = y := by
  unfold sOf at h
  injection h with h
  exact congrArg Array.toList h
theorem eqD_ok {neg : Bool} {a b : D} {v u : V} (s : Sim W H m st) (r1 : Rp W.K H m a v) (r2 : Rp W.K H m b u)
    (h : Pg W E m H ((ofO st (eqD st a b)).bind fun r st => .ok (.bl (if neg then !r else r)) st) (kD W Q)) : rEqA W.K neg v u H Q := by
  obtain ⟨r, e, h⟩ := h.ofO
  have gen : ∀ {a b : D} {v u : V}, Rp W.K H m a v → Rp W.K H m b u → eqG st a b = some r → rEqA W.K neg v u H Q := fun {a b v u} r1 r2 e => by
    unfold eqG at e
    split at e
    · rename_i p q hp hq
      split at e
      · rename_i c
        cases e
        exact .inl ⟨p, q, toP_ok s 2 hp r1, toP_ok s 2 hq r2, c.1, c.2.1, c.2.2, kD_now h s (by rw [Rp])⟩
      · cases e
    · cases e
  unfold eqD at e
  split at e
  · rw [Rp] at r1 r2; subst r1 r2; cases e
    refine .inr (.inl ⟨rfl, ?_⟩)
    have z : ∀ i j : Int, decide (V.int i = V.int j) = decide (i = j) := fun i j => by by_cases e : i = j <;> simp [e]
    rw [z]
    exact kD_now h s (by rw [Rp])
  · rw [Rp] at r1 r2; subst r1 r2; cases e
    refine .inr (.inl ⟨rfl, ?_⟩)
    have z : ∀ i j : Tx, decide (V.str (sOf i) = V.str (sOf j)) = decide (i = j) := fun i j => by
      by_cases e : i = j
      · subst e; simp
      · have : ¬ V.str (sOf i) = V.str (sOf j) := fun q => e (sOf_inj (by injection q))
        simp [e, this]
    rw [z]
    exact kD_now h s (by rw [Rp])
  · rw [Rp] at r1 r2; subst r1 r2; cases e
    refine .inr (.inl ⟨rfl, ?_⟩)
    have z : ∀ i j : Bool, decide (V.bl i = V.bl j) = decide (i = j) := fun i j => by by_cases e : i = j <;> simp [e]
    rw [z]
    exact kD_now h s (by rw [Rp])
  · cases e
    obtain ⟨a, vs, rfl, h1, h2⟩ := r1.tup_ref
    obtain ⟨b, us, rfl, g1, g2⟩ := r2.tup_ref
    rw [Rps] at g2; subst g2
    exact .inr (.inr ⟨a, b, vs, rfl, rfl, .inl ⟨h1, g1⟩, by rw [isEmpty_rel h2]; exact kD_now h s (by rw [Rp])⟩)
  · split at e
    · rename_i hx hy
      cases e
      obtain ⟨b1, hb1, vs, h1, h2⟩ := s.at hx
      obtain ⟨b2, hb2, us, g1, g2⟩ := s.at hy
      rw [Rps] at g2; subst g2
      rw [Rp] at r1 r2
      obtain ⟨a1, ha1, rfl⟩ := r1
      obtain ⟨a2, ha2, rfl⟩ := r2
      rw [hb1] at ha1; cases ha1
      rw [hb2] at ha2; cases ha2
      exact .inr (.inr ⟨_, _, vs, rfl, rfl, .inr ⟨SqL.of h1, SqL.of g1⟩, by rw [isEmpty_rel h2]; exact kD_now h s (by rw [Rp])⟩)
    · exact gen r1 r2 e
  · exact gen r1 r2 e
def rCmp (W : Wd) (o : COp) : R2 := fun x y H Q => match o with
  | .eq => rEqA W.K false x y H Q
  | .ne => rEqA W.K true x y H Q
  | .lt => ∃ i j, x = .int i ∧ y = .int j ∧ Q (.bl (decide (i < j))) H
  | .le => ∃ i j, x = .int i ∧ y = .int j ∧ Q (.bl (decide (i ≤ j))) H
  | .gt => ∃ i j, x = .int i ∧ y = .int j ∧ Q (.bl (decide (j < i))) H
  | .ge => ∃ i j, x = .int i ∧ y = .int j ∧ Q (.bl (decide (j ≤ i))) H
  | .isN => y = .non ∧ Q (.bl (decide (x = .non))) H
  | .notN => y = .non ∧ Q (.bl (!decide (x = .non))) H
  | .mem => ∃ (c : Nat) (z : Str), x = .str ⟨#[c]⟩ ∧ y = .str z ∧ Q (.bl (decide (c ∈ z.cps.toList))) H
  | .nmem => ∃ (c : Nat) (z : Str), x = .str ⟨#[c]⟩ ∧ y = .str z ∧ Q (.bl (!decide (c ∈ z.cps.toList))) H
theorem op_rCmp {o : COp} {op : CmpOp} (h : copOk o op = true) (hK : X.K = W.K) (hu : X.A.units + 64 < cLine) : OpR X (compareOp op) (rCmp W o) := by
  cases o <;> cases op <;> simp [copOk] at h
  · have q := op_eqA hu; rw [hK] at q; exact q
  · have q := op_neA hu; rw [hK] at q; exact q
  · exact op_lt
  · exact op_le
  · exact op_gt
  · exact op_ge
  · exact op_isN
  · exact op_notN
  · exact op_in_sign
  · exact op_notIn_sign
theorem Rp.non_iff {d : D} {v : V} (r : Rp W.K H m d v) : decide (v = V.non) = decide (d = D.non) := by
  cases d <;> rw [Rp] at r
  · subst r; rfl
  · subst r; rfl
  · subst r; rfl
  · subst r; rfl
  · obtain ⟨a, vs, rfl, _⟩ := r; rfl
  · obtain ⟨a, _, rfl⟩ := r; rfl
  · obtain ⟨a, vs, rfl, _⟩ := r; rfl
theorem cmp_ok {o : COp} {d e : D} {v u : V} (s : Sim W H m st) (r1 : Rp W.K H m d v) (r2 : Rp W.K H m e u) (h : Pg W E m H (cmpD o d e st) (kD W Q)) : rCmp W o v u H Q := by
  cases o
  · exact eqD_ok (neg := false) s r1 r2 h
  · exact eqD_ok (neg := true) s r1 r2 h
  · unfold cmpD at h
    simp only at h
    split at h
    · rw [Rp] at r1 r2; subst r1 r2
      exact ⟨_, _, rfl, rfl, kD_now h s (by rw [Rp])⟩
    · exact h.elim
  · unfold cmpD at h
    simp only at h
    split at h
    · rw [Rp] at r1 r2; subst r1 r2
      exact ⟨_, _, rfl, rfl, kD_now h s (by rw [Rp])⟩
    · exact h.elim
  · unfold cmpD at h
    simp only at h
    split at h
    · rw [Rp] at r1 r2; subst r1 r2
      exact ⟨_, _, rfl, rfl, kD_now h s (by rw [Rp])⟩
    · exact h.elim
  · unfold cmpD at h
    simp only at h
    split at h
    · rw [Rp] at r1 r2; subst r1 r2
      exact ⟨_, _, rfl, rfl, kD_now h s (by rw [Rp])⟩
    · exact h.elim
  · unfold cmpD at h
    simp only at h
    split at h
    · rw [Rp] at r2; subst r2
      exact ⟨rfl, by rw [r1.non_iff]; exact kD_now h s (by rw [Rp])⟩
    · exact h.elim
  · unfold cmpD at h
    simp only at h
    split at h
    · rw [Rp] at r2; subst r2
      exact ⟨rfl, by rw [r1.non_iff]; exact kD_now h s (by rw [Rp])⟩
    · exact h.elim
  · unfold cmpD at h
    simp only at h
    split at h
    · rw [Rp] at r1 r2; subst r1 r2
      exact ⟨_, _, rfl, rfl, kD_now h s (by rw [Rp]; rfl)⟩
    · exact h.elim
  · unfold cmpD at h
    simp only at h
    split at h
    · rw [Rp] at r1 r2; subst r1 r2
      exact ⟨_, _, rfl, rfl, kD_now h s (by rw [Rp]; rfl)⟩
    · exact h.elim

/-! ### items, slices, fields -/
/-- what a list or a tuple holds -/
theorem seqD_ok {d : D} {v : V} {xs : List D} (s : Sim W H m st) (r : Rp W.K H m d v) (h : seqD st d = some xs) : ∃ a vs, v = .ref a ∧ (SqL W.K H a vs ∨ SqT W.K H a vs) ∧ Rps W.K H m xs vs := by
  unfold seqD at h
  split at h
  · cases h
    obtain ⟨a, vs, rfl, h1, h2⟩ := r.tup_ref
    exact ⟨a, vs, rfl, .inr h1, h2⟩
  · split at h
    · rename_i hx
      cases h
      obtain ⟨b, hb, vs, h1, h2⟩ := s.at hx
      rw [Rp] at r
      obtain ⟨a, ha, rfl⟩ := r
      rw [ha] at hb; cases hb
      exact ⟨_, vs, rfl, .inl (SqL.of h1), h2⟩
    · cases h
  · cases h
    rw [Rp] at r
    obtain ⟨a, vs, rfl, h1, h2⟩ := r
    exact ⟨a, vs, rfl, .inl h1.l, h2⟩
  · cases h
theorem lstD_ok {d : D} {v : V} {xs : List D} (s : Sim W H m st) (r : Rp W.K H m d v) (h : lstD st d = some xs) : ∃ a vs, v = .ref a ∧ SqL W.K H a vs ∧ Rps W.K H m xs vs := by
  unfold lstD at h
  split at h
  · split at h
    · rename_i hx
      cases h
      obtain ⟨b, hb, vs, h1, h2⟩ := s.at hx
      rw [Rp] at r
      obtain ⟨a, ha, rfl⟩ := r
      rw [ha] at hb; cases hb
      exact ⟨_, vs, rfl, SqL.of h1, h2⟩
    · cases h
  · cases h
    rw [Rp] at r
    obtain ⟨a, vs, rfl, h1, h2⟩ := r
    exact ⟨a, vs, rfl, h1.l, h2⟩
  · cases h
theorem atI_rel {ds : List D} {vs : List V} {i : Int} {d : D} (r : Rps W.K H m ds vs) (h : atI ds i = some d) : ∃ v, atI vs i = some v ∧ Rp W.K H m d v := by
  unfold atI at h ⊢
  rw [r.len]
  obtain ⟨j, h1, h2⟩ := Option.bind_eq_some_iff.mp h
  obtain ⟨v, h3, h4⟩ := r.get h2
  exact ⟨v, by rw [h1]; exact h3, h4⟩
theorem ix_ok {d e : D} {v u : V} (s : Sim W H m st) (r1 : Rp W.K H m d v) (r2 : Rp W.K H m e u) (h : Pg W E m H (ixD d e st) (kD W Q)) : rIx W.K v u H Q := by
  unfold ixD at h
  split at h
  · rename_i i
    rw [Rp] at r2; subst r2
    split at h
    · rename_i x
      obtain ⟨c, h⟩ := h.ite
      obtain ⟨a, e, h⟩ := h.ofO
      rw [Rp] at r1; subst r1
      refine .inr (.inr ⟨sOf x, i, a, rfl, rfl, by rw [sOf_len]; exact lim_le c, by show atI x.toArray.toList i = _; rw [List.toList_toArray]; exact e, ?_⟩)
      exact kD_now h s (by rw [Rp]; rfl)
    · obtain ⟨xs, e, h⟩ := h.ofO
      obtain ⟨a, vs, rfl, h1, h2⟩ := seqD_ok s r1 e
      have h' : ∃ y, atI xs i = some y ∧ Pg W E m H (.ok y st) (kD W Q) := by
        cases q : atI xs i with
        | some y => rw [q] at h; exact ⟨y, rfl, h⟩
        | none => rw [q] at h; exact h.elim
      obtain ⟨y, e2, h⟩ := h'
      obtain ⟨z, e3, rz⟩ := atI_rel h2 e2
      rcases h1 with h1 | h1
      · exact .inl ⟨a, vs, i, z, rfl, rfl, h1, e3, kD_now h s rz⟩
      · exact .inr (.inl ⟨a, vs, i, z, rfl, rfl, h1, e3, kD_now h s rz⟩)
  · exact h.elim
theorem cut_rel {ds : List D} {vs : List V} {lo hi : Option Int} (r : Rps W.K H m ds vs) : Rps W.K H m (cutD ds lo hi) (cutV vs lo hi) := by
  unfold cutD cutV
  rw [r.len]
  exact (r.drop _).take _
def rSl (K : PySem.W.Frag) : V → Option Int → Option Int → Hp → VK → Prop := fun x lo hi H Q => rSlS x lo hi H Q ∨ (rSlA K x lo hi H Q ∨ rSlL K x lo hi H Q)
theorem op_rSl (hK : X.K = W.K) : SlR X (rSl W.K) := by
  have q := (sl_str (X := X)).or ((sl_tupA (X := X)).or (sl_list (X := X)))
  rw [hK] at q
  exact q
theorem sl_ok {d : D} {v : V} {lo hi : Option Int} (s : Sim W H m st) (r1 : Rp W.K H m d v) (h : Pg W E m H (slD d lo hi st) (kD W Q)) : rSl W.K v lo hi H Q := by
  unfold slD at h
  split at h
  · rename_i x
    obtain ⟨c, h⟩ := h.ite
    rw [Rp] at r1; subst r1
    refine .inl ⟨sOf x, rfl, by rw [sOf_len]; exact lim_le c, kD_now h s ?_⟩
    rw [Rp]
    unfold cutS cutD
    rw [sOf_len]
    show V.str (Str.mk (((x.toArray.toList.drop _).take _).toArray)) = _
    rw [List.toList_toArray]
    rfl
  · rename_i xs
    obtain ⟨a, vs, rfl, h1, h2⟩ := r1.tup_ref
    refine .inr (.inl ⟨a, vs, rfl, h1, fun hw => ?_, fun _ p hp => new_tup s hp (cut_rel h2) h⟩)
    have e : cutD xs lo hi = xs := by
      unfold cutD
      rw [h2.len] at hw
      rw [hw.1, hw.2]
      simp
    rw [e] at h
    exact kD_now h s (by rw [Rp]; exact ⟨a, vs, rfl, h1, h2⟩)
  · obtain ⟨xs, e, h⟩ := h.ofO
    obtain ⟨a, vs, rfl, h1, h2⟩ := lstD_ok s r1 e
    exact .inr (.inr ⟨a, vs, rfl, h1, fun p hp => new_lst s hp (cut_rel h2) h⟩)
theorem rev_ok {d : D} {v : V} (s : Sim W H m st) (r1 : Rp W.K H m d v) (h : Pg W E m H (revD d st) (kD W Q)) : ∃ a xs, v = .ref a ∧ SqL W.K H a xs ∧ ∀ p, H p = none → Q (.ref p) (upd H p (.lst xs.reverse)) := by
  obtain ⟨xs, e, h⟩ := h.ofO
  obtain ⟨a, vs, rfl, h1, h2⟩ := lstD_ok s r1 e
  exact ⟨a, vs, rfl, h1, fun p hp => new_lst s hp h2.rev h⟩
theorem lookupP {α : Type} (f g : Str) (y : α) (fs : List (Str × α)) : ((f, y) :: fs).lookup g = if g = f then some y else fs.lookup g := by
  by_cases h : g = f
  · subst h
    simp [List.lookup]
  · have e : (g == f) = false := by simpa using h
    rw [if_neg h]
    simp [List.lookup, e]
theorem Fsr.lookup {fs : List (Str × D)} {gs : List (Str × V)} (r : Fsr W.K H m fs gs) {f : Str} {d : D} (h : fs.lookup f = some d) : ∃ v, gs.lookup f = some v ∧ Rp W.K H m d v := by
  obtain ⟨r1, r2⟩ := r
  induction fs generalizing gs with
  | nil => cases h
  | cons p fs ih =>
    obtain ⟨g, d'⟩ := p
    cases gs with
    | nil => cases r1
    | cons q gs =>
      obtain ⟨g', v'⟩ := q
      simp only [List.map_cons, List.cons.injEq] at r1 r2
      rw [Rps] at r2
      obtain ⟨v, vs, e, h1, h2⟩ := r2
      cases e
      obtain ⟨rfl, r1⟩ := r1
      rw [lookupP] at h ⊢
      by_cases hf : f = g'
      · rw [if_pos hf] at h ⊢
        cases h
        exact ⟨v', rfl, h1⟩
      · rw [if_neg hf] at h ⊢
        exact ih h r1 h2
theorem Fsr.lookup_none {fs : List (Str × D)} {gs : List (Str × V)} (r : Fsr W.K H m fs gs) {f : Str} (h : fs.lookup f = none) : gs.lookup f = none := by
  have r1 := r.1
  clear r
  induction fs generalizing gs with
  | nil =>
    cases gs with
    | nil => rfl
    | cons q gs => cases r1
  | cons p fs ih =>
    obtain ⟨g, d'⟩ := p
    cases gs with
    | nil => cases r1
    | cons q gs =>
      obtain ⟨g', v'⟩ := q
      simp only [List.map_cons, List.cons.injEq] at r1
      obtain ⟨rfl, r1⟩ := r1
      rw [lookupP] at h ⊢
      by_cases hf : f = g'
      · rw [if_pos hf] at h; cases h
      · rw [if_neg hf] at h ⊢
        exact ih h r1
theorem Fsr.put {fs : List (Str × D)} {gs : List (Str × V)} {f : Str} {d : D} {v : V} (r : Fsr W.K H m fs gs) (h : Rp W.K H m d v) : Fsr W.K H m (putF' f d fs) (putF f v gs) := by
  obtain ⟨r1, r2⟩ := r
  induction fs generalizing gs with
  | nil =>
    cases gs with
    | nil => exact ⟨rfl, Rps.one h⟩
    | cons q gs => cases r1
  | cons p fs ih =>
    obtain ⟨g, d'⟩ := p
    cases gs with
    | nil => cases r1
    | cons q gs =>
      obtain ⟨g', v'⟩ := q
      simp only [List.map_cons, List.cons.injEq] at r1 r2
      rw [Rps] at r2
      obtain ⟨w, vs, e, h1, h2⟩ := r2
      cases e
      obtain ⟨rfl, r1⟩ := r1
      unfold putF' putF
      by_cases hf : g' = f
      · rw [if_pos hf, if_pos hf]
        refine ⟨by simp [r1], ?_⟩
        simp only [List.map_cons]; rw [Rps]
        exact ⟨v, _, rfl, h, h2⟩
      · rw [if_neg hf, if_neg hf]
        obtain ⟨i1, i2⟩ := ih r1 h2
        refine ⟨by simp [i1], ?_⟩
        simp only [List.map_cons]; rw [Rps]
        exact ⟨v', _, rfl, h1, i2⟩

/-! ### isinstance, built-in functions, methods -/
theorem sqT_tyx {a : Addr} {vs : List V} (h : SqT W.K H a vs) : TyX W.K H (.ref a) (.type "tuple") := by
  rcases h with (h | ⟨o, h⟩) | ⟨o, its, n, h, c, _⟩
  · exact .base (.tup h)
  · exact .fTuple h
  · exact .kTuple h c
def tyName : Option Kd → String
  | none => "NoneType"
  | some k => kdName k
theorem kind_ok {d : D} {v : V} {t : Option Kd} (s : Sim W H m st) (r : Rp W.K H m d v) (h : kindD st d = some t) : TyX W.K H v (.type (tyName t)) := by
  cases d <;> unfold kindD at h
  · rw [Rp] at r; cases h; subst r; exact .base .non
  · rw [Rp] at r; cases h; subst r; exact .base (.bl _)
  · rw [Rp] at r; cases h; subst r; exact .base (.int _)
  · rw [Rp] at r; cases h; subst r; exact .base (.str _)
  · cases h
    obtain ⟨a, vs, rfl, h1, h2⟩ := r.tup_ref
    exact sqT_tyx h1
  · simp only at h
    split at h
    · rename_i hx
      cases h
      obtain ⟨b, hb, vs, h1, h2⟩ := s.at hx
      rw [Rp] at r
      obtain ⟨a, ha, rfl⟩ := r
      rw [ha] at hb; cases hb
      exact .base (.lst h1)
    · cases h
  · cases h
theorem kit_kd (t : Option Kd) (k : Kd) : PySem.W.kitOne W.K (.type (tyName t)) (.type (kdName k)) = some (decide (t = some k ∨ (t = some .bool ∧ k = .int))) := by
  cases t with
  | none => cases k <;> rfl
  | some t => cases t <;> cases k <;> rfl
theorem isi_ok {d : D} {v : V} {k : Kd} (s : Sim W H m st) (r1 : Rp W.K H m d v) (h : Pg W E m H (isiD d k st) (kD W Q)) : rIsi W.K [v, .ty (kdName k)] H Q := by
  obtain ⟨t, e, h⟩ := h.ofO
  exact ⟨v, _, _, _, _, rfl, .ty _, kind_ok s r1 e, kit_kd t k, kD_now h s (by rw [Rp])⟩

theorem ints_rel : ∀ {xs : List D} {ns : List Int} {vs : List V}, intsD xs = some ns → Rps W.K H m xs vs → vs = ns.map V.int
  | [], ns, vs, e, r => by rw [intsD] at e; rw [Rps] at r; cases e; subst r; rfl
  | .int i :: xs, ns, vs, e, r => by
    rw [intsD] at e
    rw [Rps] at r
    obtain ⟨v, vs', rfl, h1, h2⟩ := r
    rw [Rp] at h1
    split at e
    · rename_i l q
      cases e
      rw [ints_rel q h2, h1]; rfl
    · cases e
  | .non :: xs, ns, vs, e, r => by simp [intsD] at e
  | .bl _ :: xs, ns, vs, e, r => by simp [intsD] at e
  | .str _ :: xs, ns, vs, e, r => by simp [intsD] at e
  | .tup _ :: xs, ns, vs, e, r => by simp [intsD] at e
  | .loc _ :: xs, ns, vs, e, r => by simp [intsD] at e
  | .fl _ :: xs, ns, vs, e, r => by simp [intsD] at e
theorem strs_rel : ∀ {xs : List D} {ns : List Tx} {vs : List V}, strsD xs = some ns → Rps W.K H m xs vs → vs = (ns.map sOf).map V.str
  | [], ns, vs, e, r => by rw [strsD] at e; rw [Rps] at r; cases e; subst r; rfl
  | .str i :: xs, ns, vs, e, r => by
    rw [strsD] at e
    rw [Rps] at r
    obtain ⟨v, vs', rfl, h1, h2⟩ := r
    rw [Rp] at h1
    split at e
    · rename_i l q
      cases e
      rw [strs_rel q h2, h1]; rfl
    · cases e
  | .non :: xs, ns, vs, e, r => by simp [strsD] at e
  | .bl _ :: xs, ns, vs, e, r => by simp [strsD] at e
  | .int _ :: xs, ns, vs, e, r => by simp [strsD] at e
  | .tup _ :: xs, ns, vs, e, r => by simp [strsD] at e
  | .loc _ :: xs, ns, vs, e, r => by simp [strsD] at e
  | .fl _ :: xs, ns, vs, e, r => by simp [strsD] at e
end
end Z
namespace Z
open PySem L2
section
variable {W : Wd} {E : XK} {X : Cx} {m : List Addr} {H : Hp} {st : Sto} {Q : VK}
theorem digit_ok {x : Tx} {i : Int} (h : digitT x = some i) : PySem.intText? (sOf x) = some i ∧ x.length ≤ 640 := by
  unfold digitT at h
  split at h
  · rename_i c
    split at h
    · rename_i hc
      cases h
      have hc' : c = 48 ∨ c = 49 ∨ c = 50 ∨ c = 51 ∨ c = 52 ∨ c = 53 ∨ c = 54 ∨ c = 55 ∨ c = 56 ∨ c = 57 := by omega
      refine ⟨?_, by simp⟩
      rcases hc' with rfl | rfl | rfl | rfl | rfl | rfl | rfl | rfl | rfl | rfl <;> decide +kernel
    · cases h
  · cases h
def rBi (W : Wd) (b : Bi) : List V → Hp → VK → Prop := fun xs H Q => match b with
  | .len => (∃ p ys, xs = [.ref p] ∧ (SqL W.K H p ys ∨ SqT W.K H p ys) ∧ Q (.int ys.length) H) ∨ (∃ z, xs = [.str z] ∧ z.length ≤ sizeLine ∧ Q (.int z.length) H)
  | .int => ((∃ i, xs = [.int i] ∧ Q (.int i) H) ∨ ∃ k, xs = [.bl k] ∧ Q (.int (if k then 1 else 0)) H) ∨ (∃ a n, xs = [.str a] ∧ PySem.intText? a = some n ∧ a.length ≤ 640 ∧ Q (.int n) H)
  | .list => ∃ p ys, xs = [.ref p] ∧ (SqL W.K H p ys ∨ SqT W.K H p ys) ∧ ∀ l, H l = none → Q (.ref l) (upd H l (.lst ys))
  | .tuple => ∃ p ys, xs = [.ref p] ∧ ((SqL W.K H p ys ∧ ∀ l, H l = none → Q (.ref l) (upd H l (.tup ys))) ∨ (SqT W.K H p ys ∧ Q (.ref p) H))
  | .str => False
  | .sum => rSum W.K xs H Q
def biVal : Bi → Value
  | .len => .builtin "len" | .int => .type "int" | .list => .type "list" | .tuple => .type "tuple" | .str => .type "str" | .sum => .builtin "sum"
theorem call_rBi (b : Bi) (hK : X.K = W.K) (hc : X.calm = true) : CallR X (biVal b) (rBi W b) := by
  cases b
  · have q := (call_len_seq (X := X)).or (call_len_str (X := X)); rw [hK] at q; exact q
  · exact (call_int1 (X := X)).or (call_int_str (X := X))
  · have q := call_list_of (X := X); rw [hK] at q; exact q
  · have q := call_tuple_of (X := X); rw [hK] at q; exact q
  · intro pins s σ H xs us Q I r h; exact h.elim
  · have q := cr_sum hc; rw [hK] at q; exact q
theorem bi_ok {b : Bi} {d : D} {v : V} (s : Sim W H m st) (r1 : Rp W.K H m d v) (h : Pg W E m H (biD b d st) (kD W Q)) : rBi W b [v] H Q := by
  cases b <;> unfold biD at h <;> simp only at h
  · split at h
    · obtain ⟨c, h⟩ := h.ite
      rw [Rp] at r1; subst r1
      exact .inr ⟨_, rfl, by rw [sOf_len]; exact lim_le c, by rw [sOf_len]; exact kD_now h s (by rw [Rp])⟩
    · obtain ⟨xs, e, h⟩ := h.ofO
      obtain ⟨a, vs, rfl, h1, h2⟩ := seqD_ok s r1 e
      exact .inl ⟨a, vs, rfl, h1, by rw [h2.len]; exact kD_now h s (by rw [Rp])⟩
  · split at h
    · rw [Rp] at r1; subst r1
      exact .inl (.inl ⟨_, rfl, kD_now h s (by rw [Rp])⟩)
    · rw [Rp] at r1; subst r1
      exact .inl (.inr ⟨_, rfl, kD_now h s (by rw [Rp])⟩)
    · obtain ⟨i, e, h⟩ := h.ofO
      rw [Rp] at r1; subst r1
      obtain ⟨e1, e2⟩ := digit_ok e
      exact .inr ⟨_, _, rfl, e1, by rw [sOf_len]; exact e2, kD_now h s (by rw [Rp])⟩
    · exact h.elim
  · obtain ⟨xs, e, h⟩ := h.ofO
    obtain ⟨a, vs, rfl, h1, h2⟩ := seqD_ok s r1 e
    exact ⟨a, vs, rfl, h1, fun l hl => new_lst s hl h2 h⟩
  · obtain ⟨xs, e, h⟩ := h.ofO
    obtain ⟨a, vs, rfl, h1, h2⟩ := seqD_ok s r1 e
    refine ⟨a, vs, rfl, ?_⟩
    rcases h1 with h1 | h1
    · exact .inl ⟨h1, fun l hl => new_tup s hl h2 h⟩
    · exact .inr ⟨h1, kD_now h s (by rw [Rp]; exact ⟨a, vs, rfl, h1, h2⟩)⟩
  · exact h.elim
  · obtain ⟨xs, e, h⟩ := h.ofO
    obtain ⟨a, vs, rfl, h1, h2⟩ := lstD_ok s r1 e
    obtain ⟨ns, e2, h⟩ := h.ofO
    have := ints_rel e2 h2
    subst this
    exact ⟨a, ns, rfl, h1, kD_now h s (by rw [Rp])⟩

/-! ### methods -/
theorem join_ok (sep : Tx) (ys : List Tx) : Txt.join (sOf sep) (ys.map sOf) = sOf (joinT sep ys) := by

  rw [TL.join_eq]
  induction ys with
  | nil => rfl
  | cons x r ih =>
    cases r with
    | nil => rfl
    | cons z r =>
      show sOf x ++ sOf sep ++ Str.join (sOf sep) ((z :: r).map sOf) = sOf (x ++ sep ++ joinT sep (z :: r))
      rw [ih, sOf_app, sOf_app]
def meTy : Me → String
  | .join => "str"
  | _ => "list"
def rMe0 (W : Wd) (me : Me) : V → List V → Hp → VK → Prop := fun x xs H Q => match me with
  | .pop => rPop x xs H Q
  | .clear => rClear x xs H Q
  | _ => False
def rMe1 (W : Wd) (me : Me) : V → List V → Hp → VK → Prop := fun x xs H Q => match me with
  | .append => rAppend x xs H Q
  | .extend => rExtend x xs H Q
  | .pop => rPopAt x xs H Q
  | .join => ∃ a p, ∃ ys : List Str, x = .str a ∧ xs = [.ref p] ∧ (SqL W.K H p (ys.map V.str) ∨ SqT W.K H p (ys.map V.str)) ∧ (ys.map (·.length)).sum + ys.length * a.length ≤ 16777216 ∧ Q (.str (Txt.join a ys)) H
  | _ => False
def meId : Me → String
  | .append => "list.append" | .pop => "list.pop" | .extend => "list.extend" | .join => "str.join" | .clear => "list.clear"
theorem recv_ok {me : Me} {d : D} {v : V} (s : Sim W H m st) (r : Rp W.K H m d v) (h : recvOk me st d = true) : tyV W.K (meTy me) v H := by
  have lst : kindD st d = some (some .lst) → tyV W.K "list" v H := fun h => by
    cases d <;> unfold kindD at h <;> simp at h
    split at h
    · rename_i hx
      obtain ⟨b, hb, vs, h1, h2⟩ := s.at hx
      rw [Rp] at r
      obtain ⟨a, ha, rfl⟩ := r
      rw [ha] at hb; cases hb
      exact .inl ⟨rfl, vs, SqL.of h1⟩
    · cases h
  cases me <;> simp only [recvOk, decide_eq_true_eq] at h
  · exact lst h
  · exact lst h
  · exact lst h
  · split at h
    · rw [Rp] at r; subst r; rfl
    · cases h
  · exact lst h
theorem me0_mt (me : Me) (h : me = .pop ∨ me = .clear) : MtM X (meId me) (rMe0 W me) := by
  rcases h with rfl | rfl
  · exact mt_pop
  · exact mt_clear
theorem list_at {n : Nat} {xs : List D} {v : V} (s : Sim W H m st) (r : Rp W.K H m (.loc n) v) (h : st[n]? = some (.lst xs)) : ∃ a vs, v = .ref a ∧ m[n]? = some a ∧ H a = some (.lst vs) ∧ Rps W.K H m xs vs := by
  obtain ⟨b, hb, vs, h1, h2⟩ := s.at h
  rw [Rp] at r
  obtain ⟨a, ha, rfl⟩ := r
  rw [ha] at hb; cases hb
  exact ⟨_, vs, rfl, ha, h1, h2⟩
/-- a list's change -/
theorem chg_lst {n : Nat} {a : Addr} {xs : List D} {vs : List V} {d : D} {v : V} (s : Sim W H m st) (ha : m[n]? = some a) (r : Rps W.K H m xs vs) (rv : Rp W.K H m d v) (h : Pg W E m H (.ok d (st.set n (.lst xs))) (kD W Q)) : Q v (upd H a (.lst vs)) := by
  have e0 : Ext m m H (upd H a (.lst vs)) := ⟨⟨[], by simp⟩, fun b u h nn => ⟨by
    rw [upd_ne fun z => nn (by rw [z]; exact List.mem_of_getElem? ha)]; exact h, nn⟩⟩
  obtain ⟨s', e⟩ := s.write ha (o := .lst vs) (c := .lst xs) ⟨vs, upd_same, r.up s e0⟩
  exact h.go e s' _ (rv.up s e)
theorem me0_ok {me : Me} {d : D} {v : V} (s : Sim W H m st) (r1 : Rp W.K H m d v) (h : Pg W E m H (me0D me d st) (kD W Q)) : rMe0 W me v [] H Q := by
  unfold me0D at h
  split at h
  · split at h
    · rename_i hx
      obtain ⟨a, vs, rfl, ha, h1, h2⟩ := list_at s r1 hx
      split at h
      · rename_i xs x hl
        rw [List.getLast?_eq_getElem?] at hl
        obtain ⟨y, hy, ry⟩ := h2.get hl
        exact ⟨a, vs, y, rfl, rfl, h1, by rw [h2.len]; exact hy, chg_lst s ha h2.dropLast ry h⟩
      · exact h.elim
    · exact h.elim
  · split at h
    · rename_i hx
      obtain ⟨a, vs, rfl, ha, h1, h2⟩ := list_at s r1 hx
      exact ⟨a, vs, rfl, rfl, h1, chg_lst s ha (by rw [Rps]) (by rw [Rp]) h⟩
    · exact h.elim
  · exact h.elim
theorem me1_mt (me : Me) (hK : X.K = W.K) (h : me ≠ .clear) : MtM X (meId me) (rMe1 W me) := by
  cases me
  · exact mt_append
  · exact mt_popAt
  · exact mt_extend
  · have q := mt_join (X := X); rw [hK] at q; exact q
  · exact absurd rfl h
theorem me1_ok {me : Me} {d e : D} {v u : V} (s : Sim W H m st) (r1 : Rp W.K H m d v) (r2 : Rp W.K H m e u) (h : Pg W E m H (me1D me d e st) (kD W Q)) : rMe1 W me v [u] H Q := by
  unfold me1D at h
  split at h
  · split at h
    · rename_i hx
      obtain ⟨c, h⟩ := h.ite
      obtain ⟨a, vs, rfl, ha, h1, h2⟩ := list_at s r1 hx
      exact ⟨a, vs, u, rfl, rfl, h1, by rw [h2.len]; exact lim_lt c, chg_lst s ha (h2.append (.one r2)) (by rw [Rp]) h⟩
    · exact h.elim
  · split at h
    · rename_i hx
      rw [Rp] at r2; subst r2
      split at h
      · rename_i k hk
        split at h
        · rename_i x hxk
          obtain ⟨c, h⟩ := h.ite
          obtain ⟨a, vs, rfl, ha, h1, h2⟩ := list_at s r1 hx
          obtain ⟨y, hy, ry⟩ := h2.get hxk
          obtain ⟨k1, k2, k3, k4⟩ := ixN_seq hk
          have c' : (_ : List D).length ≤ 100000 := c
          exact ⟨a, vs, _, k, y, rfl, rfl, h1, by omega, by omega, by rw [h2.len]; exact k1, hy, chg_lst s ha (h2.erase k) ry h⟩
        · exact h.elim
      · exact h.elim
    · exact h.elim
  · split at h
    · split at h
      · rename_i hx hy
        obtain ⟨c, h⟩ := h.ite
        obtain ⟨a, vs, rfl, ha, h1, h2⟩ := list_at s r1 hx
        obtain ⟨b, us, rfl, hb, g1, g2⟩ := list_at s r2 hy
        exact ⟨a, b, vs, us, rfl, rfl, h1, g1, by rw [h2.len, g2.len]; exact lim_le c, chg_lst s ha (h2.append g2) (by rw [Rp]) h⟩
      · exact h.elim
    · exact h.elim
  · obtain ⟨xs, e1, h⟩ := h.ofO
    obtain ⟨ys, e2, h⟩ := h.ofO
    obtain ⟨c, h⟩ := h.ite
    rw [Rp] at r1; subst r1
    obtain ⟨a, vs, rfl, h1, h2⟩ := seqD_ok s r2 e1
    have := strs_rel e2 h2
    subst this
    refine ⟨_, a, ys.map sOf, rfl, rfl, h1, ?_, ?_⟩
    · have z : (List.map (fun x => x.length) (List.map sOf ys)) = ys.map List.length := by
        rw [List.map_map]; exact List.map_congr_left fun x _ => sOf_len x
      rw [z, sOf_len, List.length_map]
      exact Nat.le_trans c (by decide)
    · rw [join_ok]; exact kD_now h s (by rw [Rp])
  · exact h.elim
end
end Z
namespace Z
open PySem L2
/-! ### the text's forms -/
section
variable {e o : Expr} {es : List Expr} {env : PySem.Env} {pos apos : Pos} {nm : Str}
theorem star_cons (h : isStar e = false) : starEach (e :: es) env = (false, eval e env) :: starEach es env := by
  cases e <;> first | rfl | cases h
def noStars : List Expr → Bool
  | [] => true
  | e :: es => !isStar e && noStars es
theorem star_plain : ∀ {es : List Expr}, noStars es = true → (backTo pos (starEach es env)).any (·.1) = false
  | [], _ => rfl
  | e :: es, h => by
    rw [noStars, Bool.and_eq_true] at h
    have h1 : isStar e = false := by simpa using h.1
    rw [star_cons h1]
    show (false || (backTo pos (starEach es env)).any (·.1)) = false
    rw [star_plain h.2]; rfl
theorem star_few : ∀ {es : List Expr}, noStars es = true → (backTo pos (starEach es env)).all (fun x => !x.1) = true
  | [], _ => rfl
  | e :: es, h => by
    rw [noStars, Bool.and_eq_true] at h
    have h1 : isStar e = false := by simpa using h.1
    rw [star_cons h1]
    show (true && (backTo pos (starEach es env)).all (fun x => !x.1)) = true
    rw [star_few h.2]; rfl
theorem base_of (h : baseOk o = true) : attributeBase o nm env (eval o env) = eval o env := by
  cases o with
  | Call f as ks p =>
    cases as with
    | nil => cases h
    | cons a as => cases f <;> rfl
  | _ => rfl
theorem plainIx_of (h : isSlice e = false) : PlainIx e := fun o i => by
  cases e <;> first | rfl | cases h
theorem foldSet_of (h : isSetD e = false) : ∀ x, foldedSetIterable e env x = pure x := fun x => by
  cases e <;> first | rfl | cases h
def fewForm (n : Nat) (es : List Expr) (env : PySem.Env) (pos : Pos) : Prop := ((backTo pos (starEach es env)).all (fun x => !x.1) && (backToKw pos (keywordEach [] env)).all (fun x => x.1.isSome)
      && decide (es.length + ([] : List Keyword).length + (if ([] : List Keyword).isEmpty then 0 else 1) < 30)) = true
theorem few_of (h : noStars es = true) (hn : es.length < 20) : fewForm 0 es env pos := by
  unfold fewForm
  rw [star_few h]
  show (true && true && decide (es.length + 0 + 0 < 30)) = true
  rw [decide_eq_true (by omega : es.length + 0 + 0 < 30)]; rfl
theorem meth_form (hb : baseOk o = true) (hl : (apos.endLine == pos.line) = true) (hs : noStars es = true) (hn : es.length < 20) :
    eval (.Call (.Attribute o nm apos) es [] pos) env = (do
      let ov ← eval o env
      standAt apos.atName
      let (f, first) ← holding [ov] (getMethod ov nm (do return (← importBound o env).getD true))
      callWith pos f first (backTo pos (starEach es env)) (backToKw pos (keywordEach [] env))) := by
  have h1 : methodCallForm (es.length + ([] : List Keyword).length) (backTo pos (starEach es env)) (backToKw pos (keywordEach [] env)) = true := few_of hs hn
  have e1 : eval (.Call (.Attribute o nm apos) es [] pos) env = (do
    let ov ← attributeBase o nm env (eval o env)
    standAt apos.atName
    methodCall o nm apos pos env ov (es.length + ([] : List Keyword).length) (backTo pos (starEach es env)) (backToKw pos (keywordEach [] env))) := by rfl
  rw [e1, base_of hb]
  unfold methodCall methodCallPos
  rw [h1, hl]
  rfl
def plainT : Expr → Bool
  | .UnaryOp .Not _ _ => false | .BoolOp .. => false | .IfExp .. => false | .Compare .. => false
  | _ => true
theorem isTrue_of (h : plainT e = true) : ∀ whole, isTrue e env whole = (do let v ← whole; standAt e.pos; holding [v] (truthy v)) := by
  intro whole
  cases e with
  | UnaryOp op x p => cases op <;> first | rfl | cases h
  | BoolOp => cases h
  | IfExp => cases h
  | Compare => cases h
  | _ => rfl
end

/-! ### where one stands -/
structure XOk (W : Wd) (Ns : List Str) (scp : Scope) (k : Nat) (E : XK) (X : Cx) : Prop where
  prog : X.prog = W.P
  w : X.w = W.w
  K : X.K = W.K
  mg : X.mg = W.mg
  base : X.base = W.base
  N : X.N = Ns
  nd : Ns.Nodup
  sc : X.env.scope = scp
  calm : X.calm = true
  room : Room (2 * k + 1) X.A
  pass : Passes (L2.CX X.prog X.w) X E
/-- a function keeps what its evaluation says -/
def spE (W : Wd) (C : Fn) (i : Nat) : Sp := fun vs H Q E => ∃ m st ds, Sim W H m st ∧ Rps W.K H m ds vs ∧ vs.length = (W.ps i).length ∧ Pg W E m H (C i ds st) (kD W Q)
/-- what the program's top has left -/
structure WOk (W : Wd) (cc : CC) : Prop where
  fn : ∀ x i, cc.fns.lookup x = some i → W.mg x = some (.ref (W.fa i)) ∧ PySem.W.keepIn W.K (.ref (W.fa i)) = true ∧ ∃ fi, W.pr.fns[i]? = some fi
  bi : ∀ (i : Nat) (fi : FnIR), W.pr.fns[i]? = some fi → Binds W.K (W.fd i) (W.ps i) [] ∧ (W.ps i).length = fi.np
  gl : ∀ x d, cc.gls.lookup x = some d → ∃ u v, W.mg x = some u ∧ RelV v u ∧ ∀ H m, Rp W.K H m d v
  bl : ∀ x, x ∈ cc.bls → W.mg x = none
  cl : ∀ x c, cc.cls.lookup x = some c → W.mg x = some (.ref (W.ca c)) ∧ c < W.ncl ∧ ∃ f, W.pr.ini c = some f
  cls : ∀ c, c < W.ncl → Cls W.K (W.ca c)
  nf : ∀ c f, c < W.ncl → f ∈ cc.flds → NoAttr W.K (W.ca c) f
  mkk : ∀ c f, W.pr.ini c = some f → Mk W.K (W.ca c) (W.fa f) ∧ ∃ fi, W.pr.fns[f]? = some fi
  mt : ∀ x mi c f, cc.mns.lookup x = some mi → c < W.ncl → W.pr.meth c mi = some f → Meth W.K (W.ca c) x (W.fa f) ∧ ∃ fi, W.pr.fns[f]? = some fi
/-- the functions keep their promises at a level -/
def Lv (W : Wd) (k : Nat) : Prop := ∀ (i : Nat) (fi : FnIR), W.pr.fns[i]? = some fi → FnOk W.P W.w W.K W.mg W.base (L2.CX W.P W.w) (2 * k) (W.fa i) (W.fd i) (W.ps i) (spE W (W.pr.call W.F k) i)
theorem step_np {W : Wd} {E : XK} {m : List Addr} {H : Hp} {pr : Prog} {F : Nat} {C : Cl} {i : Nat} {ds : List D} {st : Sto} {fi : FnIR} {k : D → List Addr → Sto → Hp → Prop} (h : Pg W E m H (pr.step F C i ds st) k) (hi : pr.fns[i]? = some fi) : ds.length = fi.np := by
  unfold Prog.step at h
  rw [hi] at h
  exact h.ite.1
theorem call_np {W : Wd} {E : XK} {m : List Addr} {H : Hp} {pr : Prog} {F k i : Nat} {ds : List D} {st : Sto} {fi : FnIR} {q : D → List Addr → Sto → Hp → Prop} (h : Pg W E m H (pr.call F k i ds st) q) (hi : pr.fns[i]? = some fi) : ds.length = fi.np := by
  cases k with
  | zero => exact h.elim
  | succ k => exact step_np h hi

section
variable {W : Wd} {cc : CC} {Ns : List Str} {scp : Scope} {k : Nat} {E : XK} {X : Cx} {C : Cl}
/-- the functions called -/
def Wd.cl (W : Wd) (k : Nat) : Cl := W.pr.cl W.F k
theorem vis_of {x : Str} (h : visB scp x = true) (hs : X.env.scope = scp) : Vis X.env.scope x := by
  unfold visB at h
  rw [hs]
  split at h
  · exact .inl (by assumption)
  · exact .inr (.inl (by assumption))
  · exact .inr (.inr (by assumption))
  · cases h
theorem gl_of {x : Str} (h : glB scp x = true) (hs : X.env.scope = scp) : Gl X x ∧ (x == ("__debug__" : Str)) = false := by
  unfold glB at h
  rw [Bool.and_eq_true, decide_eq_true_eq, decide_eq_true_eq] at h
  refine ⟨?_, h.2⟩
  show X.env.scope.names.lookup x = _
  rw [hs]; exact h.1
theorem tE_var {i : Nat} {σ : L2.St} {H : Hp} {Q : VK} (h : tE W E (ev C (.var i)) σ H Q) : tVar i σ H Q := by
  obtain ⟨m, ρ, st, s, r, p⟩ := h
  rw [ev] at p
  split at p
  · rename_i d hd
    obtain ⟨v, h1, h2⟩ := r.2 i d hd
    exact ⟨v, h1, kD_now p s h2⟩
  · exact p.elim
theorem tE_cst {d : D} {v : V} {σ : L2.St} {H : Hp} {Q : VK} (h : tE W E (fun _ st => .ok d st) σ H Q) (r : ∀ m, Rp W.K H m d v) : Q v H := by
  obtain ⟨m, ρ, st, s, _, p⟩ := h
  exact kD_now p s (r m)
/-- a bool, by what gives it -/
theorem tE_bl {f : Env → Sto → R D} {σ : L2.St} {H : Hp} {Q : Bool → Hp → Prop} (h : tT W E (fun ρ st => (f ρ st).bind fun x st => bOf st x) σ H Q) : tE W E f σ H fun v H' => ∃ b, v = .bl b ∧ Q b H' := by
  obtain ⟨m, ρ, st, s, r, p⟩ := h
  refine ⟨m, ρ, st, s, r, p.bind.imp fun d m1 st1 H1 e1 s1 p1 v rv => ?_⟩
  cases d with
  | bl b => rw [Rp] at rv; subst rv; exact ⟨b, rfl, p1.now s1⟩
  | _ => exact p1.elim
/-- a truth value read from a test -/
theorem Pg.bOf {β : Type} {m : List Addr} {H : Hp} {d : D} {st : Sto} {f : Bool → Sto → R β} {k : β → List Addr → Sto → Hp → Prop} (h : Pg W E m H ((bOf st d).bind f) k) : ∃ b, d = .bl b ∧ Pg W E m H (f b st) k := by
  cases d with
  | bl b => exact ⟨b, rfl, h⟩
  | _ => exact h.elim

/-! ### boolean connectives -/
theorem and_T {a b : IE} {σ : L2.St} {H : Hp} {Q : Bool → Hp → Prop} (h : tT W E (evT C (.and a b)) σ H Q) : tAnd (tT W E (evT C a)) (tT W E (evT C b)) σ H Q := by
  obtain ⟨m, ρ, st, s, r, p⟩ := h
  have p : Pg W E m H (((ev C a ρ st).bind fun x st => (bOf st x).bind fun k st => if k = true then (ev C b ρ st).bind fun y st => (bOf st y).bind fun j st => .ok (.bl j) st else .ok (.bl false) st).bind fun x st => bOf st x) (kB Q) := by
    unfold evT at p; rw [ev] at p; exact p
  refine ⟨m, ρ, st, s, r, ?_⟩
  unfold evT
  cases h1 : ev C a ρ st with
  | ok x st1 =>
    rw [h1] at p
    cases x with
    | bl k =>
      intro H1 m1 e1 s1
      cases k with
      | true =>
        refine iteT ⟨m1, ρ, st1, s1, r.up s e1, ?_⟩
        have p1 := Pg.up e1 p
        change Pg W E m1 H1 (((ev C b ρ st1).bind fun y st => (bOf st y).bind fun j st => .ok (.bl j) st).bind fun x st => bOf st x) (kB Q) at p1
        show Pg W E m1 H1 ((ev C b ρ st1).bind fun x st => bOf st x) (kB Q)
        cases h2 : ev C b ρ st1 with
        | ok y st2 =>
          rw [h2] at p1
          cases y with
          | bl j => exact p1
          | _ => exact p1.elim
        | exc x st2 => rw [h2] at p1; exact p1
        | stuck => rw [h2] at p1; exact p1
      | false => exact iteF (p H1 m1 e1 s1)
    | _ => exact p.elim
  | exc x st1 => rw [h1] at p; exact p
  | stuck => rw [h1] at p; exact p
theorem or_T {a b : IE} {σ : L2.St} {H : Hp} {Q : Bool → Hp → Prop} (h : tT W E (evT C (.or a b)) σ H Q) : tOr (tT W E (evT C a)) (tT W E (evT C b)) σ H Q := by
  obtain ⟨m, ρ, st, s, r, p⟩ := h
  have p : Pg W E m H (((ev C a ρ st).bind fun x st => (bOf st x).bind fun k st => if k = true then .ok (.bl true) st else (ev C b ρ st).bind fun y st => (bOf st y).bind fun j st => .ok (.bl j) st).bind fun x st => bOf st x) (kB Q) := by
    unfold evT at p; rw [ev] at p; exact p
  refine ⟨m, ρ, st, s, r, ?_⟩
  unfold evT
  cases h1 : ev C a ρ st with
  | ok x st1 =>
    rw [h1] at p
    cases x with
    | bl k =>
      intro H1 m1 e1 s1
      cases k with
      | false =>
        refine iteF ⟨m1, ρ, st1, s1, r.up s e1, ?_⟩
        have p1 := Pg.up e1 p
        change Pg W E m1 H1 (((ev C b ρ st1).bind fun y st => (bOf st y).bind fun j st => .ok (.bl j) st).bind fun x st => bOf st x) (kB Q) at p1
        show Pg W E m1 H1 ((ev C b ρ st1).bind fun x st => bOf st x) (kB Q)
        cases h2 : ev C b ρ st1 with
        | ok y st2 =>
          rw [h2] at p1
          cases y with
          | bl j => exact p1
          | _ => exact p1.elim
        | exc x st2 => rw [h2] at p1; exact p1
        | stuck => rw [h2] at p1; exact p1
      | true => exact iteT (p H1 m1 e1 s1)
    | _ => exact p.elim
  | exc x st1 => rw [h1] at p; exact p
  | stuck => rw [h1] at p; exact p
theorem not_T {a : IE} {σ : L2.St} {H : Hp} {Q : Bool → Hp → Prop} (h : tT W E (evT C (.not a)) σ H Q) : tNot (tT W E (evT C a)) σ H Q := by
  obtain ⟨m, ρ, st, s, r, p⟩ := h
  have p : Pg W E m H (((ev C a ρ st).bind fun x st => (bOf st x).bind fun k st => .ok (.bl (!k)) st).bind fun x st => bOf st x) (kB Q) := by
    unfold evT at p; rw [ev] at p; exact p
  refine ⟨m, ρ, st, s, r, ?_⟩
  unfold evT
  cases h1 : ev C a ρ st with
  | ok x st1 =>
    rw [h1] at p
    cases x with
    | bl k => exact p
    | _ => exact p.elim
  | exc x st1 => rw [h1] at p; exact p
  | stuck => rw [h1] at p; exact p
/-- as values -/
theorem and_V {a b : IE} {σ : L2.St} {H : Hp} {Q : VK} (h : tE W E (ev C (.and a b)) σ H Q) : tAndV (tE W E (ev C a)) (tE W E (ev C b)) σ H Q := by
  obtain ⟨m, ρ, st, s, r, p⟩ := h
  rw [ev] at p
  refine ⟨m, ρ, st, s, r, p.bind.imp fun d m1 st1 H1 e1 s1 p1 v rv => ?_⟩
  obtain ⟨c, rfl, q1⟩ := p1.bOf
  rw [Rp] at rv; subst rv
  refine ⟨c, rfl, ?_⟩
  cases c with
  | true =>
    refine iteT ⟨m1, ρ, st1, s1, r.up s e1, ?_⟩
    rw [if_pos rfl] at q1
    refine q1.bind.imp fun d m2 st2 H2 e2 s2 p2 v rv => ?_
    obtain ⟨j, rfl, q2⟩ := p2.bOf
    exact kD_now q2 s2 rv
  | false =>
    rw [if_neg Bool.false_ne_true] at q1
    exact iteF (kD_now q1 s1 (by rw [Rp]))
theorem or_V {a b : IE} {σ : L2.St} {H : Hp} {Q : VK} (h : tE W E (ev C (.or a b)) σ H Q) : tOrV (tE W E (ev C a)) (tE W E (ev C b)) σ H Q := by
  obtain ⟨m, ρ, st, s, r, p⟩ := h
  rw [ev] at p
  refine ⟨m, ρ, st, s, r, p.bind.imp fun d m1 st1 H1 e1 s1 p1 v rv => ?_⟩
  obtain ⟨c, rfl, q1⟩ := p1.bOf
  rw [Rp] at rv; subst rv
  refine ⟨c, rfl, ?_⟩
  cases c with
  | false =>
    refine iteF ⟨m1, ρ, st1, s1, r.up s e1, ?_⟩
    rw [if_neg Bool.false_ne_true] at q1
    refine q1.bind.imp fun d m2 st2 H2 e2 s2 p2 v rv => ?_
    obtain ⟨j, rfl, q2⟩ := p2.bOf
    exact kD_now q2 s2 rv
  | true =>
    rw [if_pos rfl] at q1
    exact iteT (kD_now q1 s1 (by rw [Rp]))
theorem not_V {a : IE} {σ : L2.St} {H : Hp} {Q : VK} (h : tE W E (ev C (.not a)) σ H Q) : tNotV (tE W E (ev C a)) σ H Q := by
  obtain ⟨m, ρ, st, s, r, p⟩ := h
  rw [ev] at p
  refine ⟨m, ρ, st, s, r, p.bind.imp fun d m1 st1 H1 e1 s1 p1 v rv => ?_⟩
  obtain ⟨c, rfl, q1⟩ := p1.bOf
  rw [Rp] at rv; subst rv
  exact ⟨c, rfl, kD_now q1 s1 (by rw [Rp])⟩
theorem ite_V {c a b : IE} {σ : L2.St} {H : Hp} {Q : VK} (h : tE W E (ev C (.ite c a b)) σ H Q) : tIf (tT W E (evT C c)) (tE W E (ev C a)) (tE W E (ev C b)) σ H Q := by
  obtain ⟨m, ρ, st, s, r, p⟩ := h
  have p : Pg W E m H ((evT C c ρ st).bind fun k st => if k = true then ev C a ρ st else ev C b ρ st) (kD W Q) := by
    rw [ev] at p
    unfold evT
    cases h1 : ev C c ρ st with
    | ok x st1 => rw [h1] at p; exact p
    | exc x st1 => rw [h1] at p; exact p
    | stuck => rw [h1] at p; exact p
  refine ⟨m, ρ, st, s, r, p.bind.imp fun k m1 st1 H1 e1 s1 p1 => ?_⟩
  cases k with
  | true => exact iteT ⟨m1, ρ, st1, s1, r.up s e1, p1⟩
  | false => exact iteF ⟨m1, ρ, st1, s1, r.up s e1, p1⟩
theorem ite_T {c a b : IE} {σ : L2.St} {H : Hp} {Q : Bool → Hp → Prop} (h : tT W E (evT C (.ite c a b)) σ H Q) : tT W E (evT C c) σ H fun k H1 => if k = true then tT W E (evT C a) σ H1 Q else tT W E (evT C b) σ H1 Q := by
  obtain ⟨m, ρ, st, s, r, p⟩ := h
  have p : Pg W E m H ((evT C c ρ st).bind fun k st => if k = true then evT C a ρ st else evT C b ρ st) (kB Q) := by
    unfold evT at p ⊢
    rw [ev] at p
    cases h1 : ev C c ρ st with
    | ok x st1 =>
      rw [h1] at p
      cases x with
      | bl k => cases k <;> exact p
      | _ => exact p.elim
    | exc x st1 => rw [h1] at p; exact p
    | stuck => rw [h1] at p; exact p
  refine ⟨m, ρ, st, s, r, p.bind.imp fun k m1 st1 H1 e1 s1 p1 => ?_⟩
  cases k with
  | true => exact iteT ⟨m1, ρ, st1, s1, r.up s e1, p1⟩
  | false => exact iteF ⟨m1, ρ, st1, s1, r.up s e1, p1⟩
end
end Z
namespace Z
open PySem L2
section
variable {W : Wd} {cc : CC} {Ns : List Str} {scp : Scope} {k : Nat} {E : XK} {X : Cx} {C : Cl}
/-! ### argument lists, calls -/
theorem evs_cons {e : IE} {r : IEs} {σ : L2.St} {H : Hp} {Q : List V → Hp → Prop} (h : tA W E (evs C (.cons e r)) σ H Q) : tCons (tE W E (ev C e)) (tA W E (evs C r)) σ H Q := by
  obtain ⟨m, ρ, st, s, rr, p⟩ := h
  rw [evs] at p
  refine ⟨m, ρ, st, s, rr, p.bind.imp fun d m1 st1 H1 e1 s1 p1 v rv => ?_⟩
  refine ⟨m1, ρ, st1, s1, rr.up s e1, p1.bind.imp fun ds m2 st2 H2 e2 s2 p2 vs rvs => ?_⟩
  exact p2.now s2 _ (by rw [Rps]; exact ⟨v, vs, rfl, rv.up s1 e2, rvs⟩)
theorem evs_nil {σ : L2.St} {H : Hp} {Q : List V → Hp → Prop} (h : tA W E (evs C .nil) σ H Q) : tNil σ H Q := by
  obtain ⟨m, ρ, st, s, rr, p⟩ := h
  rw [evs] at p
  exact p.now s [] (by rw [Rps])
/-- behind the arguments -/
theorem tA_then {es : IEs} {h : List D → Sto → R D} {σ : L2.St} {H : Hp} {Q : VK} {q : List V → Hp → Prop} (w : tE W E (fun ρ st => (evs C es ρ st).bind h) σ H Q)
    (qq : ∀ m st H ds vs, Sim W H m st → Rps W.K H m ds vs → Pg W E m H (h ds st) (kD W Q) → q vs H) : tA W E (evs C es) σ H q := by
  obtain ⟨m, ρ, st, s, rr, p⟩ := w
  exact ⟨m, ρ, st, s, rr, p.bind.imp fun ds m1 st1 H1 e1 s1 p1 vs rvs => qq m1 st1 H1 ds vs s1 rvs p1⟩
theorem PA.of_nil {es : List Expr} (h : es = []) : PA X es (tA W E (evs C .nil)) := by
  subst h
  exact PA.weak pa_nil fun _ _ _ w => evs_nil w
theorem FnOk.at (hX : XOk W Ns scp k E X) {f : Addr} {fd : FuncData} {ps : List Str} {sp : Sp} {j : Nat} (F : FnOk W.P W.w W.K W.mg W.base (L2.CX W.P W.w) j f fd ps sp) : FnOk X.prog X.w X.K X.mg X.base (L2.CX X.prog X.w) j f fd ps sp := by
  rw [hX.prog, hX.w, hX.K, hX.mg, hX.base]; exact F
theorem tup_E {es : IEs} {σ : L2.St} {H : Hp} {Q : VK} (h : tE W E (ev C (.tup es)) σ H Q) : tTup (tA W E (evs C es)) σ H Q := by
  have h' : tE W E (fun ρ st => (evs C es ρ st).bind fun ds st => if ds.length ≤ LIM then .ok (.tup ds) st else .stuck) σ H Q := by
    obtain ⟨m, ρ, st, s, rr, p⟩ := h; rw [ev] at p; exact ⟨m, ρ, st, s, rr, p⟩
  refine tA_then h' fun m st H ds vs s r p => ?_
  obtain ⟨c, p⟩ := p.ite
  exact ⟨by rw [r.len]; exact lim_le c, fun a ha => new_tup s ha r p⟩
theorem lst_E {es : IEs} {σ : L2.St} {H : Hp} {Q : VK} (h : tE W E (ev C (.lst es)) σ H Q) : tLst (tA W E (evs C es)) σ H Q := by
  have h' : tE W E (fun ρ st => (evs C es ρ st).bind fun ds st => if ds.length ≤ LIM then .ok (.loc st.length) (st ++ [.lst ds]) else .stuck) σ H Q := by
    obtain ⟨m, ρ, st, s, rr, p⟩ := h; rw [ev] at p; exact ⟨m, ρ, st, s, rr, p⟩
  refine tA_then h' fun m st H ds vs s r p => ?_
  obtain ⟨c, p⟩ := p.ite
  exact ⟨by rw [r.len]; exact lim_le c, fun a ha => new_lst s ha r p⟩
theorem call_E (hW : WOk W cc) {f : Nat} {fi : FnIR} (hf : W.pr.fns[f]? = some fi) {es : IEs} {σ : L2.St} {H : Hp} {Q : VK} (h : tE W E (ev (W.cl k) (.call f es)) σ H Q) :
    tCall (spE W (W.pr.call W.F k) f) [] E (tA W E (evs (W.cl k) es)) σ H Q := by
  have h' : tE W E (fun ρ st => (evs (W.cl k) es ρ st).bind fun ds st => (W.cl k).call f ds st) σ H Q := by
    obtain ⟨m, ρ, st, s, rr, p⟩ := h; rw [ev] at p; exact ⟨m, ρ, st, s, rr, p⟩
  refine tA_then h' fun m st H ds vs s r p => ?_
  rw [List.append_nil]
  exact ⟨m, st, ds, s, r, by rw [r.len, (hW.bi f fi hf).2]; exact call_np p hf, p⟩
theorem pe_callE (hX : XOk W Ns scp k E X) (hW : WOk W cc) (L : Lv W k) {x : Str} {f : Nat} {es : IEs} {xs : List Expr} {p pos : Pos}
    (hf : cc.fns.lookup x = some f) (hg : glB scp x = true) (hn : noStars xs = true) (ha : PA X xs (tA W E (evs (W.cl k) es))) (hnil : xs = [] → es = .nil) : PE X (.Call (.Name x p) xs [] pos) (tE W E (ev (W.cl k) (.call f es))) := by
  obtain ⟨h1, h2, fi, h3⟩ := hW.fn x f hf
  obtain ⟨g1, g2⟩ := gl_of hg hX.sc
  have b := (hW.bi f fi h3).1
  have F := FnOk.at hX ((L f fi h3).mono (Nat.le_succ _))
  cases xs with
  | nil =>
    cases hnil rfl
    refine PE.weak (pe_call0 F hX.room g1 (by rw [hX.mg]; exact h1) (by rw [hX.K]; exact h2) (by rw [hX.K]; exact b) .nil hX.pass g2) fun σ H Q w => ?_
    have q := call_E hW h3 w
    exact evs_nil (C := W.cl k) (W := W) (E := E) q
  | cons e xs =>
    rw [noStars, Bool.and_eq_true] at hn
    exact PE.weak (pe_call F hX.room g1 (by rw [hX.mg]; exact h1) (by rw [hX.K]; exact h2) (by rw [hX.K]; exact b) .nil hX.pass ha g2 (star_cons (by simpa using hn.1)) (star_plain hn.2)) fun σ H Q w => call_E hW h3 w
/-- a new instance -/
theorem mk_E (hW : WOk W cc) {c f : Nat} {fi : FnIR} (hc : c < W.ncl) (hf : W.pr.ini c = some f) (hfi : W.pr.fns[f]? = some fi) {es : IEs} {σ : L2.St} {H : Hp} {Q : VK} (h : tE W E (ev (W.cl k) (.mk c es)) σ H Q) :
    tMake (W.ca c) (spE W (W.pr.call W.F k) f) [] E (tA W E (evs (W.cl k) es)) σ H Q := by
  have h' : tE W E (fun ρ st => (evs (W.cl k) es ρ st).bind fun ds st => ((W.cl k).call f (.loc st.length :: ds) (st ++ [.ins c []])).bind fun r st' => if r = .non then .ok (.loc st.length) st' else .stuck) σ H Q := by
    obtain ⟨m, ρ, st, s, rr, p⟩ := h
    rw [ev] at p
    have e : (W.cl k).ini c = some f := hf
    rw [e] at p
    exact ⟨m, ρ, st, s, rr, p⟩
  refine tA_then h' fun m st H ds vs s r p x dx hx hdx ne => ?_
  rw [List.append_nil]
  obtain ⟨s1, e1⟩ := s.laid hdx (.own x)
  have hx' : upd H dx (.own x) x = none := by rw [upd_ne (Ne.symm ne)]; exact hx
  obtain ⟨s2, e2⟩ := s1.push hx' (c := .ins c []) (o := .ins (W.ca c) dx []) ⟨dx, [], hc, upd_same, rfl, by simp [Rps]⟩
  have e := e1.trans e2
  have loc0 : (m ++ [x])[st.length]? = some x := by rw [List.getElem?_append_right (by rw [s.len]; exact Nat.le_refl _), s.len]; simp
  have rl : Rp W.K (upd (upd H dx (.own x)) x (.ins (W.ca c) dx [])) (m ++ [x]) (.loc st.length) (.ref x) := by rw [Rp]; exact ⟨x, loc0, rfl⟩
  have p1 := (Pg.up e p).bind
  refine ⟨m ++ [x], _, .loc st.length :: ds, s2, by rw [Rps]; exact ⟨_, _, rfl, rl, r.up s e⟩, ?_, p1.imp fun d m3 st3 H3 e3 s3 p3 v rv => ?_⟩
  · have := call_np p1 hfi
    rw [(hW.bi f fi hfi).2, ← this, List.length_cons, List.length_cons, r.len]
  · obtain ⟨c, p3⟩ := p3.ite
    subst c
    rw [Rp] at rv; subst rv
    exact ⟨rfl, kD_now p3 s3 (rl.up s2 e3)⟩
theorem pe_mkE (hX : XOk W Ns scp k E X) (hW : WOk W cc) (L : Lv W k) {x : Str} {c : Nat} {es : IEs} {xs : List Expr} {p pos : Pos}
    (hf : cc.cls.lookup x = some c) (hg : glB scp x = true) (hn : noStars xs = true) (ha : PA X xs (tA W E (evs (W.cl k) es))) (hnil : xs = [] → es = .nil) : PE X (.Call (.Name x p) xs [] pos) (tE W E (ev (W.cl k) (.mk c es))) := by
  obtain ⟨h1, hc, f, h2⟩ := hW.cl x c hf
  obtain ⟨M, fi, h3⟩ := hW.mkk c f h2
  obtain ⟨g1, g2⟩ := gl_of hg hX.sc
  have b := (hW.bi f fi h3).1
  have F := FnOk.at hX (L f fi h3)
  have hr : Room (2 * k + 1) X.A := hX.room
  have M' : Mk X.K (W.ca c) (W.fa f) := by rw [hX.K]; exact M
  cases xs with
  | nil =>
      cases hnil rfl
      refine PE.weak (pe_make0 M' F hr g1 (by rw [hX.mg]; exact h1) (by rw [hX.K]; exact b) .nil hX.pass g2) fun σ H Q w => ?_
      have q := mk_E hW hc h2 h3 w
      exact evs_nil (C := W.cl k) (W := W) (E := E) q
  | cons e xs =>
      rw [noStars, Bool.and_eq_true] at hn
      exact PE.weak (pe_make M' F hr g1 (by rw [hX.mg]; exact h1) (by rw [hX.K]; exact b) .nil hX.pass ha g2 (star_cons (by simpa using hn.1)) (star_plain hn.2)) fun σ H Q w => mk_E hW hc h2 h3 w
end
end Z
namespace Z
open PySem L2
section
variable {W : Wd} {cc : CC} {Ns : List Str} {scp : Scope} {k : Nat} {E : XK} {X : Cx}
/-! ### own methods -/
/-- o.m(..) by the instance's class -/
def tMethD (X : Cx) (k : Nat) (m : Str) (E : XK) (ta : TE) (t : TA) : TE := fun σ H Q => ta σ H fun x H1 => ∃ a C dx fs f fd ps sp, x = .ref a ∧ H1 a = some (.ins C dx fs) ∧ Cls X.K C ∧ Meth X.K C m f ∧
  FnOk X.prog X.w X.K X.mg X.base (L2.CX X.prog X.w) k f fd ps sp ∧ Binds X.K fd ps [] ∧ fs.lookup m = none ∧ t σ H1 fun vs H2 => sp (x :: vs) H2 Q E
theorem pe_methD {j : Nat} {m : Str} {o : Expr} {es : List Expr} {ta : TE} {t : TA} {apos pos : Pos} {pl : Sem Bool} (he : PE X o ta) (hr : Room j X.A) (hx : Passes (L2.CX X.prog X.w) X E) (ha : PA X es t) (hnil : es = [] → ∀ σ H Q, t σ H Q → Q [] H) (hs : noStars es = true)
    (ht : eval (.Call (.Attribute o m apos) es [] pos) X.env = (do
      let ov ← eval o X.env
      standAt apos.atName
      let (f, first) ← holding [ov] (getMethod ov m pl)
      callWith pos f first (backTo pos (starEach es X.env)) (backToKw pos (keywordEach [] X.env)))) :
    PE X (.Call (.Attribute o m apos) es [] pos) (tMethD X j m E ta t) := by
  refine ⟨fun pins s σ H Q I h => ?_⟩
  refine PySem.W.methodCall_KW (pl := pl) (thn (he.run pins s σ H _ I h) fun u s1 ⟨x, H1, I1, rx, a, C, dx, fs, f, fd, ps, sp, ex, ea, c, hm, F, b, l, q⟩ => ?_) ht
  subst ex
  obtain rfl : u = Value.ref a := rx
  refine getmeth_ok I1 ea c hm l ?_
  cases es with
  | nil =>
    refine PySem.W.callWith_K0 (first := [.ref a]) I1.kIn hm.kp ?_
    exact run_fn (us := [.ref a]) (vs := [.ref a]) (ds := []) (dvs := []) F hr b .nil hx I1 (.cons rfl .nil) (hnil rfl σ H1 _ q)
  | cons e es =>
    rw [noStars, Bool.and_eq_true] at hs
    refine PySem.W.callWith_K (first := [.ref a]) (h₀ := X.base) I.ok.mod.kin hm.kp (thn (ha.run pos pins s1 σ H1 _ I1 q) fun us s2 ⟨vs, H2, I2, r, q2⟩ => ⟨I2.kIn, ?_⟩) (star_cons (by simpa using hs.1)) (star_plain hs.2)
    exact run_fn (us := .ref a :: us) (vs := .ref a :: vs) (ds := []) (dvs := []) F hr b .nil hx I2 (.cons rfl r) (by rw [List.append_nil]; exact q2)
theorem om_E (hX : XOk W Ns scp k E X) (hW : WOk W cc) (L : Lv W k) {x : Str} {mi : Nat} {a : IE} {es : IEs} (hm : cc.mns.lookup x = some mi) {σ : L2.St} {H : Hp} {Q : VK} (h : tE W E (ev (W.cl k) (.om x mi a es)) σ H Q) :
    tMethD X (2 * k + 1) x E (tE W E (ev (W.cl k) a)) (tA W E (evs (W.cl k) es)) σ H Q := by
  obtain ⟨m, ρ, st, s, r, p⟩ := h
  rw [ev] at p
  refine ⟨m, ρ, st, s, r, p.bind.imp fun d m1 st1 H1 e1 s1 p1 v rv => ?_⟩
  cases d with
  | loc n =>
    simp only at p1
    split at p1
    · rename_i c fs hc
      split at p1
      · rename_i f hf hno
        obtain ⟨ad, had, dx, gs, hcl, h1, h2⟩ := s1.at hc
        have rv' := rv
        rw [Rp] at rv'
        obtain ⟨a', ha', rfl⟩ := rv'
        rw [had] at ha'; cases ha'
        obtain ⟨M, fi, hfi⟩ := hW.mt x mi c f hm hcl hf
        have F := FnOk.at hX ((L f fi hfi).mono (Nat.le_succ _))
        refine ⟨ad, W.ca c, dx, gs, W.fa f, W.fd f, W.ps f, _, rfl, h1, by rw [hX.K]; exact hW.cls c hcl, by rw [hX.K]; exact M, F, by rw [hX.K]; exact (hW.bi f fi hfi).1, h2.lookup_none hno, ?_⟩
        refine ⟨m1, ρ, st1, s1, r.up s e1, p1.bind.imp fun ds m2 st2 H2 e2 s2 p2 vs rvs => ?_⟩
        refine ⟨m2, st2, .loc n :: ds, s2, by rw [Rps]; exact ⟨_, _, rfl, rv.up s1 e2, rvs⟩, ?_, p2⟩
        have := call_np p2 hfi
        rw [(hW.bi f fi hfi).2, ← this, List.length_cons, List.length_cons, rvs.len]
      · exact p1.elim
    · exact p1.elim
  | _ => exact p1.elim
theorem pe_omE (hX : XOk W Ns scp k E X) (hW : WOk W cc) (L : Lv W k) {x : Str} {mi : Nat} {a : IE} {es : IEs} {o : Expr} {xs : List Expr} {apos pos : Pos} (hm : cc.mns.lookup x = some mi) (hb : baseOk o = true) (hl : (apos.endLine == pos.line) = true) (hn : xs.length < 20)
    (he : PE X o (tE W E (ev (W.cl k) a))) (hs : noStars xs = true) (ha : PA X xs (tA W E (evs (W.cl k) es))) (hnil : xs = [] → es = .nil) : PE X (.Call (.Attribute o x apos) xs [] pos) (tE W E (ev (W.cl k) (.om x mi a es))) := by
  refine PE.weak (pe_methD he hX.room hX.pass ha (fun e σ H Q w => ?_) hs (meth_form hb hl hs hn)) fun σ H Q w => om_E hX hW L hm w
  cases hnil e
  exact evs_nil w

/-! ### one operand, two operands -/
theorem fld_E (hW : WOk W cc) {a : IE} {f : Str} (hf : f ∈ cc.flds) {σ : L2.St} {H : Hp} {Q : VK} (h : tE W E (ev (W.cl k) (.fld a f)) σ H Q) : tFld W.K (tE W E (ev (W.cl k) a)) f σ H Q := by
  have h' : tE W E (fun ρ st => (ev (W.cl k) a ρ st).bind fun x st => fldD x f st) σ H Q := by
    obtain ⟨m, ρ, st, s, rr, p⟩ := h; rw [ev] at p; exact ⟨m, ρ, st, s, rr, p⟩
  refine h'.one fun m st H d v s r p => ?_
  unfold fldD at p
  split at p
  · split at p
    · rename_i n c fs hc
      obtain ⟨ad, had, dx, gs, hcl, h1, h2⟩ := s.at hc
      rw [Rp] at r
      obtain ⟨a', ha', rfl⟩ := r
      rw [had] at ha'; cases ha'
      have p' : ∃ y, fs.lookup f = some y ∧ Pg W E m H (.ok y st) (kD W Q) := by
        cases q : fs.lookup f with
        | some y => rw [q] at p; exact ⟨y, rfl, p⟩
        | none => rw [q] at p; exact p.elim
      obtain ⟨y, hy, p⟩ := p'
      obtain ⟨z, hz, rz⟩ := h2.lookup hy
      exact ⟨ad, _, dx, gs, z, rfl, h1, hW.cls c hcl, hW.nf c f hcl hf, hz, kD_now p s rz⟩
    · exact p.elim
  · exact p.elim
theorem bl_of {x : Str} (hX : XOk W Ns scp k E X) (hW : WOk W cc) (h : blB cc scp x = true) : Gl X x ∧ X.mg x = none ∧ x ≠ "__name__" ∧ (x == ("__debug__" : Str)) = false := by
  unfold blB at h
  rw [Bool.and_eq_true, Bool.and_eq_true, decide_eq_true_eq, decide_eq_true_eq] at h
  obtain ⟨g1, g2⟩ := gl_of h.1.1 hX.sc
  exact ⟨g1, by rw [hX.mg]; exact hW.bl x h.1.2, h.2, g2⟩
theorem boot_kd (kd : Kd) : bootBuiltins (Str.ofString (kdName kd)) = some (.type (kdName kd)) := by cases kd <;> decide +kernel
theorem boot_bi (b : Bi) : bootBuiltins (biName b) = some (biVal b) := by cases b <;> decide +kernel
theorem isi_E {a : IE} {kd : Kd} {σ : L2.St} {H : Hp} {Q : VK} (h : tE W E (ev (W.cl k) (.isi a kd)) σ H Q) : tCB (rIsi W.K) (tCons (tE W E (ev (W.cl k) a)) (tCons (tC (.ty (kdName kd))) tNil)) σ H Q := by
  have h' : tE W E (fun ρ st => (ev (W.cl k) a ρ st).bind fun x st => isiD x kd st) σ H Q := by
    obtain ⟨m, ρ, st, s, rr, p⟩ := h; rw [ev] at p; exact ⟨m, ρ, st, s, rr, p⟩
  exact h'.one fun m st H d v s r p => isi_ok s r p
theorem pe_isiE (hX : XOk W Ns scp k E X) (hW : WOk W cc) {a : IE} {kd : Kd} {x : Expr} {nm t : Str} {p p2 pos : Pos} (hn : nm = "isinstance") (ht : t = Str.ofString (kdName kd)) (h1 : blB cc scp nm = true) (h2 : blB cc scp t = true) (hs : isStar x = false)
    (he : PE X x (tE W E (ev (W.cl k) a))) : PE X (.Call (.Name nm p) [x, .Name t p2] [] pos) (tE W E (ev (W.cl k) (.isi a kd))) := by
  obtain ⟨g1, g2, g3, g4⟩ := bl_of hX hW h1
  obtain ⟨k1, k2, k3, k4⟩ := bl_of hX hW h2
  subst hn ht
  have c := call_isi (X := X)
  rw [hX.K] at c
  exact PE.weak (pe_callB c g1 g2 (by decide +kernel) (pa_cons he (pa_cons (pe_bltn k1 k2 (boot_kd kd) (v := .ty (kdName kd)) rfl k3 k4) pa_nil) (star_cons hs)) g3 g4 (star_cons hs) rfl) fun σ H Q w => isi_E w
theorem bi_E {a : IE} {b : Bi} {σ : L2.St} {H : Hp} {Q : VK} (h : tE W E (ev (W.cl k) (.bi b a)) σ H Q) : tCB (rBi W b) (tCons (tE W E (ev (W.cl k) a)) tNil) σ H Q := by
  have h' : tE W E (fun ρ st => (ev (W.cl k) a ρ st).bind fun x st => biD b x st) σ H Q := by
    obtain ⟨m, ρ, st, s, rr, p⟩ := h; rw [ev] at p; exact ⟨m, ρ, st, s, rr, p⟩
  exact h'.one fun m st H d v s r p => bi_ok s r p
theorem pe_biE (hX : XOk W Ns scp k E X) (hW : WOk W cc) {a : IE} {b : Bi} {x : Expr} {nm : Str} {p pos : Pos} (hn : nm = biName b) (h1 : blB cc scp nm = true) (hs : isStar x = false) (he : PE X x (tE W E (ev (W.cl k) a))) :
    PE X (.Call (.Name nm p) [x] [] pos) (tE W E (ev (W.cl k) (.bi b a))) := by
  obtain ⟨g1, g2, g3, g4⟩ := bl_of hX hW h1
  subst hn
  have c := call_rBi (X := X) (W := W) b hX.K hX.calm
  have hv := boot_bi b
  refine PE.weak (t := tCB (rBi W b) (tCons (tE W E (ev (W.cl k) a)) tNil)) ?_ fun σ H Q w => bi_E w
  cases b
  · exact pe_callB c g1 g2 hv (pa_cons he pa_nil (star_cons hs)) g3 g4 (star_cons hs) rfl
  · exact pe_callTy c g1 g2 hv (pa_cons he pa_nil (star_cons hs)) g3 g4 (star_cons hs) rfl
  · exact pe_callTy c g1 g2 hv (pa_cons he pa_nil (star_cons hs)) g3 g4 (star_cons hs) rfl
  · exact pe_callTy c g1 g2 hv (pa_cons he pa_nil (star_cons hs)) g3 g4 (star_cons hs) rfl
  · exact pe_callTy c g1 g2 hv (pa_cons he pa_nil (star_cons hs)) g3 g4 (star_cons hs) rfl
  · exact pe_callB c g1 g2 hv (pa_cons he pa_nil (star_cons hs)) g3 g4 (star_cons hs) rfl
theorem me0_E {a : IE} {me : Me} {σ : L2.St} {H : Hp} {Q : VK} (h : tE W E (ev (W.cl k) (.me0 me a)) σ H Q) : tBM0 W.K (meTy me) (rMe0 W me) (tE W E (ev (W.cl k) a)) σ H Q := by
  have h' : tE W E (fun ρ st => (ev (W.cl k) a ρ st).bind fun x st => if recvOk me st x = true then me0D me x st else .stuck) σ H Q := by
    obtain ⟨m, ρ, st, s, rr, p⟩ := h; rw [ev] at p; exact ⟨m, ρ, st, s, rr, p⟩
  refine h'.one fun m st H d v s r p => ?_
  obtain ⟨c, p⟩ := p.ite
  exact ⟨recv_ok s r c, me0_ok s r p⟩
theorem me1_E {a b : IE} {me : Me} {σ : L2.St} {H : Hp} {Q : VK} (h : tE W E (ev (W.cl k) (.me1 me a b)) σ H Q) : tBM W.K (meTy me) (rMe1 W me) (tE W E (ev (W.cl k) a)) (tCons (tE W E (ev (W.cl k) b)) tNil) σ H Q := by
  obtain ⟨m, ρ, st, s, r, p⟩ := h
  rw [ev] at p
  refine ⟨m, ρ, st, s, r, p.bind.imp fun d m1 st1 H1 e1 s1 p1 v rv => ?_⟩
  obtain ⟨c, p1⟩ := p1.ite
  exact ⟨recv_ok s1 rv c, m1, ρ, st1, s1, r.up s e1, p1.bind.imp fun e m2 st2 H2 e2 s2 p2 u ru => me1_ok s2 (rv.up s1 e2) ru p2⟩
theorem pe_me0E (hX : XOk W Ns scp k E X) {a : IE} {me : Me} {x : Expr} {nm : Str} {ap pos : Pos} (hn : nm = meName me) (hb : baseOk x = true) (hl : (ap.endLine == pos.line) = true) (hme : me = .pop ∨ me = .clear) (he : PE X x (tE W E (ev (W.cl k) a))) :
    PE X (.Call (.Attribute x nm ap) [] [] pos) (tE W E (ev (W.cl k) (.me0 me a))) := by
  subst hn
  refine PE.weak (t := tBM0 X.K (meTy me) (rMe0 W me) (tE W E (ev (W.cl k) a))) ?_ fun σ H Q w => by rw [hX.K]; exact me0_E w
  have mt := me0_mt (W := W) (X := X) me hme
  rcases hme with rfl | rfl
  · exact pe_bm0 PySem.F.plainAttrs_list PySem.F.slot_list_pop PySem.F.type_list_pop mt he (base_of hb) hl
  · exact pe_bm0 PySem.F.plainAttrs_list PySem.F.slot_list_clear PySem.F.type_list_clear mt he (base_of hb) hl
theorem pe_me1E (hX : XOk W Ns scp k E X) {a b : IE} {me : Me} {x y : Expr} {nm : Str} {ap pos : Pos} (hn : nm = meName me) (hb : baseOk x = true) (hl : (ap.endLine == pos.line) = true) (hme : me ≠ .clear) (hs : isStar y = false) (he : PE X x (tE W E (ev (W.cl k) a))) (hf : PE X y (tE W E (ev (W.cl k) b))) :
    PE X (.Call (.Attribute x nm ap) [y] [] pos) (tE W E (ev (W.cl k) (.me1 me a b))) := by
  subst hn
  refine PE.weak (t := tBM X.K (meTy me) (rMe1 W me) (tE W E (ev (W.cl k) a)) (tCons (tE W E (ev (W.cl k) b)) tNil)) ?_ fun σ H Q w => by rw [hX.K]; exact me1_E w
  have mt := me1_mt (W := W) (X := X) me hX.K hme
  have few : fewForm 0 [y] X.env pos := few_of (by rw [noStars, hs]; rfl) (by simp)
  cases me
  · exact pe_bm PySem.F.plainAttrs_list PySem.F.slot_list_append PySem.F.type_list_append mt he (pa_cons hf pa_nil (star_cons hs)) (base_of hb) few hl (star_cons hs) rfl
  · exact pe_bm PySem.F.plainAttrs_list PySem.F.slot_list_pop PySem.F.type_list_pop mt he (pa_cons hf pa_nil (star_cons hs)) (base_of hb) few hl (star_cons hs) rfl
  · exact pe_bm PySem.F.plainAttrs_list PySem.F.slot_list_extend PySem.F.type_list_extend mt he (pa_cons hf pa_nil (star_cons hs)) (base_of hb) few hl (star_cons hs) rfl
  · exact pe_bm PySem.F.plainAttrs_str PySem.F.slot_str_join PySem.F.type_str_join mt he (pa_cons hf pa_nil (star_cons hs)) (base_of hb) few hl (star_cons hs) rfl
  · exact absurd rfl hme
end
end Z
namespace Z
open PySem L2
section
variable {W : Wd} {cc : CC} {Ns : List Str} {scp : Scope} {k : Nat} {E : XK} {X : Cx} {C : Cl}
/-! ### targets -/
def gNames : List Nat → TGs
  | [] => gNil
  | i :: is => gCons (gName i) (gNames is)
def gIT (K : PySem.W.Frag) : IT → TG
  | .name i => gName i
  | .tup is => gTup K is.length (gNames is)
structure TOk (Ns : List Str) (scp : Scope) (fnS : Str → Bool) (X : Cx) : Prop where
  N : X.N = Ns
  nd : Ns.Nodup
  sc : X.env.scope = scp
  fn : X.fn = fnS
  calm : X.calm = true
theorem pg_nameE {fnS : Str → Bool} (hX : TOk Ns scp fnS X) {i : Nat} {e : Expr} (h : tgB Ns scp fnS i e = true) : PG X e (gName i) ∧ ∃ x p, e = .Name x p := by
  cases e with
  | Name x p =>
    unfold tgB at h
    rw [Bool.and_eq_true, decide_eq_true_eq] at h
    refine ⟨?_, x, p, rfl⟩
    have h2 := h.2
    split at h2
    · rename_i hl
      exact pg_name (by rw [hX.N]; exact hX.nd) (by rw [hX.N]; exact h.1) (.inl (by rw [hX.sc]; exact hl)) (.inr (by rw [hX.sc]; exact hl))
    · rename_i hl
      exact pg_name (by rw [hX.N]; exact hX.nd) (by rw [hX.N]; exact h.1) (.inr (by rw [hX.sc]; exact hl)) (.inl (by rw [hX.fn]; exact h2))
    · cases h2
  | _ => cases h
theorem pg_namesE {fnS : Str → Bool} (hX : TOk Ns scp fnS X) : ∀ {is : List Nat} {es : List Expr}, tgsB Ns scp fnS is es = true → PGs X es (gNames is) ∧ (assignEach es X.env).length = is.length ∧ (assignEach es X.env).findIdx? (·.1) = none
  | [], [], _ => ⟨pgs_nil, rfl, rfl⟩
  | i :: is, e :: es, h => by
    unfold tgsB at h
    rw [Bool.and_eq_true] at h
    obtain ⟨h1, x, p, rfl⟩ := pg_nameE hX h.1
    obtain ⟨h2, h3, h4⟩ := pg_namesE hX h.2
    refine ⟨pgs_cons h1 h2 rfl, ?_, ?_⟩
    · show (assignEach es X.env).length + 1 = is.length + 1
      rw [h3]
    · show List.findIdx? (·.1) ((false, assign (.Name x p) X.env) :: assignEach es X.env) = none
      rw [List.findIdx?_cons, h4]; rfl
  | [], _ :: _, h => by cases h
  | _ :: _, [], h => by cases h
theorem pg_IT {fnS : Str → Bool} (hX : TOk Ns scp fnS X) {t : IT} {e : Expr} (h : chkT Ns scp fnS t e = true) : PG X e (gIT X.K t) := by
  cases t with
  | name i => exact (pg_nameE hX h).1
  | tup is =>
    cases e with
    | Tuple es j pos =>
      obtain ⟨h2, h3, h4⟩ := pg_namesE hX h
      exact pg_tup hX.calm h2 h3 h4
    | _ => cases h
section
variable {m : List Addr} {H : Hp}
theorem names_ok : ∀ {is : List Nat} {ds : List D} {vs : List V} {ρ : Env} {σ : L2.St} {Q : L2.St → Hp → Prop}, Rps W.K H m ds vs → EnvR W H m ρ σ → ds.length = is.length →
    (∀ σ', EnvR W H m ((is.zip ds).foldl (fun ρ p => ρ.set p.1 (some p.2)) ρ) σ' → (∀ vz, (∀ i ∈ is, i ∈ vz) → L2.wipe σ' vz = L2.wipe σ vz) → Q σ' H) → gNames is vs σ H Q
  | [], [], vs, ρ, σ, Q, r, e, _, h => by
    rw [Rps] at r
    exact ⟨r, h σ e fun _ _ => rfl⟩
  | i :: is, d :: ds, vs, ρ, σ, Q, r, e, hl, h => by
    rw [Rps] at r
    obtain ⟨v, vs', rfl, r1, r2⟩ := r
    refine ⟨v, vs', rfl, ?_⟩
    show gNames is vs' (σ.set i (some v)) H Q
    refine names_ok r2 (e.set r1) (by simpa using hl) fun σ' e' hw => h σ' e' fun vz hz => ?_
    rw [hw vz fun j hj => hz j (List.mem_cons_of_mem _ hj)]
    have hi := hz i List.mem_cons_self
    clear hw hz h
    induction vz with
    | nil => simp at hi
    | cons z vz ih =>
      unfold L2.wipe
      by_cases hc : i ∈ vz
      · rw [ih hc]
      · have : i = z := by simpa [hc] using hi
        subst this
        have aux : ∀ (vz : List Nat) (τ : L2.St) (x : Option V), i ∉ vz → L2.wipe (τ.set i x) vz = (L2.wipe τ vz).set i x := by
          intro vz
          induction vz with
          | nil => intro τ x _; rfl
          | cons z vz ih2 =>
            intro τ x hn
            simp only [List.mem_cons, not_or] at hn
            unfold L2.wipe
            rw [ih2 τ x hn.2, List.set_comm _ _ hn.1]
        rw [aux vz σ _ hc, List.set_set]
  | [], _ :: _, _, _, _, _, _, _, hl, _ => by simp at hl
  | _ :: _, [], _, _, _, _, _, _, hl, _ => by simp at hl
/-- a target takes a value -/
theorem gIT_ok {t : IT} {d : D} {v : V} {ρ ρ' : Env} {σ : L2.St} {Q : L2.St → Hp → Prop} (r : Rp W.K H m d v) (e : EnvR W H m ρ σ) (h : asgT ρ t d = some ρ')
    (q : ∀ σ', EnvR W H m ρ' σ' → (∀ vz, (∀ i ∈ t.slots, i ∈ vz) → L2.wipe σ' vz = L2.wipe σ vz) → Q σ' H) : gIT W.K t v σ H Q := by
  cases t with
  | name i =>
    unfold asgT at h
    cases h
    refine q _ (e.set r) fun vz hz => ?_
    have z := names_ok (W := W) (is := [i]) (ds := [d]) (vs := [v]) (Q := fun σ' _ => ∀ vz, (∀ j ∈ [i], j ∈ vz) → L2.wipe σ' vz = L2.wipe σ vz) (Rps.one r) e rfl fun σ' _ hw => hw
    obtain ⟨v', vs', e1, z⟩ := z
    cases e1
    exact z.2 vz hz
  | tup is =>
    cases d with
    | tup ds =>
      unfold asgT at h
      simp only at h
      split at h
      · rename_i hl
        cases h
        obtain ⟨a, vs, rfl, h1, h2⟩ := r.tup_ref
        exact ⟨a, vs, rfl, h1, by rw [h2.len]; exact hl, names_ok h2 e hl q⟩
      · cases h
    | _ => cases h
end
end
end Z
namespace Z
open PySem L2
section
variable {W : Wd} {cc : CC} {Ns : List Str} {scp : Scope} {k : Nat} {E : XK} {X : Cx} {C : Cl}
/-! ### what is walked -/
/-- J walks w, wherever w's list stands as it is -/
def Walks (W : Wd) (J : It) (w : Wk) (m0 : List Addr) (H0 : Hp) : Prop := ∀ H m st, Ext m0 m H0 H → Sim W H m st → w.stays st = true → ∀ i : Nat,
  (∀ d, w.xs[i]? = some d → J.go i H ∧ ∀ x H', J.yld i H x H' → H' = H ∧ Rp W.K H m d x) ∧ (w.xs.length ≤ i → J.stop i H)
def tI (W : Wd) (E : XK) (f : Env → Sto → R Wk) : TI := fun σ H Rr => ∃ m ρ st, Sim W H m st ∧ EnvR W H m ρ σ ∧ Pg W E m H (f ρ st) fun w m' _ H' => ∀ J, Walks W J w m' H' → Rr J H'
theorem walks_tup {a : Addr} {vs : List V} {xs : List D} {m : List Addr} {H : Hp} {st : Sto} (s : Sim W H m st) (h1 : SqT W.K H a vs) (h2 : Rps W.K H m xs vs) : Walks W (Itt W.K a) ⟨xs, none⟩ m H := by
  intro H1 m1 st1 e s1 _ i
  have q1 := sqT_up s e h1
  have q2 := h2.up s e
  refine ⟨fun d hd => ?_, fun hi => ⟨vs, q1, by rw [q2.len]; exact hi⟩⟩
  obtain ⟨v, hv, rv⟩ := q2.get hd
  refine ⟨⟨vs, v, q1, hv⟩, fun x H' y => ⟨y.1, ?_⟩⟩
  have := y.2 vs q1
  rw [hv] at this; cases this
  exact rv
theorem walks_fl {a : Addr} {vs : List V} {xs : List D} {m : List Addr} {H : Hp} {st : Sto} (s : Sim W H m st) (h1 : SqF W.K H a vs) (h2 : Rps W.K H m xs vs) : Walks W (Itl W.K a) ⟨xs, none⟩ m H := by
  intro H1 m1 st1 e s1 _ i
  have q1 := (sqF_up s e h1).l
  have q2 := h2.up s e
  refine ⟨fun d hd => ?_, fun hi => ⟨vs, q1, by rw [q2.len]; exact hi⟩⟩
  obtain ⟨v, hv, rv⟩ := q2.get hd
  refine ⟨⟨vs, v, q1, hv⟩, fun x H' y => ⟨y.1, ?_⟩⟩
  have := y.2 vs q1
  rw [hv] at this; cases this
  exact rv
theorem walks_lst {a : Addr} {xs : List D} {n : Nat} {m : List Addr} {H : Hp} (ha : m[n]? = some a) : Walks W (Itl W.K a) ⟨xs, some (n, .lst xs)⟩ m H := by
  intro H1 m1 st1 e s1 hs i
  have hs : decide (st1[n]? = some (.lst xs)) = true := hs
  have hs := of_decide_eq_true hs
  obtain ⟨b, hb, vs, h1, h2⟩ := s1.at hs
  have := e.at ha
  rw [hb] at this; cases this
  refine ⟨fun d hd => ?_, fun hi => ⟨vs, SqL.of h1, by rw [h2.len]; exact hi⟩⟩
  obtain ⟨v, hv, rv⟩ := h2.get hd
  refine ⟨⟨vs, v, SqL.of h1, hv⟩, fun x H' y => ⟨y.1, ?_⟩⟩
  have := y.2 vs (SqL.of h1)
  rw [hv] at this; cases this
  exact rv
theorem rngW_get {lo : Int} {n i : Nat} {d : D} (h : (rngW lo n).xs[i]? = some d) : i < n ∧ d = .int (lo + (i : Int)) := by
  unfold rngW at h
  simp only [List.getElem?_map] at h
  cases q : (List.range n)[i]? with
  | none => rw [q] at h; cases h
  | some j =>
    rw [q] at h
    obtain ⟨h1, h2⟩ := List.getElem?_eq_some_iff.mp q
    simp at h1 h2
    subst h2
    cases h
    exact ⟨h1, rfl⟩
theorem rngW_len {lo : Int} {n : Nat} : (rngW lo n).xs.length = n := by unfold rngW; simp
theorem walks_rng {lo : Int} {n : Nat} {m : List Addr} {H : Hp} : Walks W (Itr lo n) (rngW lo n) m H := by
  intro H1 m1 st1 e s1 _ i
  refine ⟨fun d hd => ?_, fun hi => by rw [rngW_len] at hi; exact hi⟩
  obtain ⟨h1, rfl⟩ := rngW_get hd
  exact ⟨h1, fun x H' y => ⟨y.1, by rw [Rp]; exact y.2⟩⟩
theorem pi_itE {tg l : Expr} {a : IE} (hK : X.K = W.K) (he : PE X l (tE W E (ev C a))) : PI X tg l (tI W E (evI C (.it a))) := by
  refine ⟨fun pins s σ H Rr I h => ?_⟩
  obtain ⟨m, ρ, st, sm, r, p⟩ := h
  rw [evI] at p
  cases hev : ev C a ρ st with
  | stuck => rw [hev] at p; exact p.elim
  | exc e st1 =>
    refine (pi_list (tg := tg) he).run pins s σ H Rr I ⟨m, ρ, st, sm, r, ?_⟩
    rw [hev] at p ⊢
    exact p
  | ok d st1 =>
    rw [hev] at p
    have p : Pg W E m H (wkD d st1) _ := p
    cases d with
    | tup xs =>
      refine (pi_tup (tg := tg) he).run pins s σ H Rr I ⟨m, ρ, st, sm, r, ?_⟩
      rw [hev]
      intro H1 m1 e1 s1 v rv
      obtain ⟨b, vs, rfl, h1, h2⟩ := rv.tup_ref
      refine ⟨b, rfl, ⟨vs, by rw [hK]; exact h1⟩, p.go e1 s1 _ ?_⟩
      rw [hK]
      exact walks_tup s1 h1 h2
    | fl xs =>
      refine (pi_list (tg := tg) he).run pins s σ H Rr I ⟨m, ρ, st, sm, r, ?_⟩
      rw [hev]
      intro H1 m1 e1 s1 v rv
      rw [Rp] at rv
      obtain ⟨b, vs, rfl, h1, h2⟩ := rv
      refine ⟨b, rfl, ⟨vs, by rw [hK]; exact h1.l⟩, p.go e1 s1 _ ?_⟩
      rw [hK]
      exact walks_fl s1 h1 h2
    | loc n =>
      unfold wkD at p
      simp only at p
      split at p
      · rename_i xs hx
        refine (pi_list (tg := tg) he).run pins s σ H Rr I ⟨m, ρ, st, sm, r, ?_⟩
        rw [hev]
        intro H1 m1 e1 s1 v rv
        rw [Rp] at rv
        obtain ⟨b, hb, rfl⟩ := rv
        obtain ⟨b', hb', vs, h1, h2⟩ := s1.at hx
        rw [hb] at hb'; cases hb'
        refine ⟨b, rfl, ⟨vs, SqL.of h1⟩, p.go e1 s1 _ ?_⟩
        rw [hK]
        exact walks_lst hb
      · exact p.elim
    | _ => exact p.elim
theorem Pg.iOf {β : Type} {m : List Addr} {H : Hp} {d : D} {st : Sto} {f : Int → Sto → R β} {q : β → List Addr → Sto → Hp → Prop} (h : Pg W E m H ((iOf st d).bind f) q) : ∃ b, d = .int b ∧ Pg W E m H (f b st) q := by
  cases d with
  | int b => exact ⟨b, rfl, h⟩
  | _ => exact h.elim
theorem pi_rng1E (hX : XOk W Ns scp k E X) (hW : WOk W cc) {tg x : Expr} {a : IE} {nm : Str} {p pos : Pos} (hn : nm = "range") (h1 : blB cc scp nm = true) (hs : isStar x = false) (he : PE X x (tE W E (ev C a))) :
    PI X tg (.Call (.Name nm p) [x] [] pos) (tI W E (evI C (.rng1 a))) := by
  obtain ⟨g1, g2, g3, g4⟩ := bl_of hX hW h1
  subst hn
  refine ⟨fun pins s σ H Rr I h => (pi_range1 (tg := tg) g1 g2 (pa_cons he pa_nil (star_cons hs)) (star_cons hs)).run pins s σ H Rr I ?_⟩
  obtain ⟨m, ρ, st, sm, r, p⟩ := h
  rw [evI] at p
  refine ⟨m, ρ, st, sm, r, p.bind.imp fun d m1 st1 H1 e1 s1 p1 v rv => ?_⟩
  obtain ⟨i, rfl, p2⟩ := p1.iOf
  obtain ⟨c, p2⟩ := p2.ite
  rw [Rp] at rv; subst rv
  exact ⟨i, rfl, c.1, c.2, p2.now s1 _ walks_rng⟩
theorem pi_rng2E (hX : XOk W Ns scp k E X) (hW : WOk W cc) {tg x y : Expr} {a b : IE} {nm : Str} {p pos : Pos} (hn : nm = "range") (h1 : blB cc scp nm = true) (hs : isStar x = false) (hs2 : isStar y = false) (he : PE X x (tE W E (ev C a))) (hf : PE X y (tE W E (ev C b))) :
    PI X tg (.Call (.Name nm p) [x, y] [] pos) (tI W E (evI C (.rng2 a b))) := by
  obtain ⟨g1, g2, g3, g4⟩ := bl_of hX hW h1
  subst hn
  refine ⟨fun pins s σ H Rr I h => (pi_range2 (tg := tg) g1 g2 (pa_cons he (pa_cons hf pa_nil (star_cons hs2)) (star_cons hs)) (by rw [star_cons hs, star_cons hs2]; rfl) (star_cons hs2)).run pins s σ H Rr I ?_⟩
  obtain ⟨m, ρ, st, sm, r, p⟩ := h
  rw [evI] at p
  refine ⟨m, ρ, st, sm, r, p.bind.imp fun d m1 st1 H1 e1 s1 p1 v rv => ?_⟩
  refine ⟨m1, ρ, st1, s1, r.up sm e1, p1.bind.imp fun d2 m2 st2 H2 e2 s2 p2 u ru => ?_⟩
  obtain ⟨i, rfl, p3⟩ := p2.iOf
  obtain ⟨j, rfl, p4⟩ := p3.iOf
  obtain ⟨c, p5⟩ := p4.ite
  rw [Rp] at rv ru; subst rv ru
  exact ⟨i, j, rfl, ⟨c.1.1, c.1.2, c.2.1, c.2.2⟩, p5.now s2 _ walks_rng⟩

/-! ### comprehensions -/
theorem bind_ok {α β : Type} {r : R α} {f : α → Sto → R β} {b : β} {st : Sto} (h : r.bind f = .ok b st) : ∃ a st', r = .ok a st' ∧ f a st' = .ok b st := by
  cases r with
  | ok a st' => exact ⟨a, st', rfl, h⟩
  | exc e st' => cases h
  | stuck => cases h
def tC' (W : Wd) (E : XK) (f : Env → Sto → R Bool) : TT := tT W E f
theorem wipe_wipe (σ : L2.St) : ∀ vs : List Nat, L2.wipe (L2.wipe σ vs) vs = L2.wipe σ vs := by
  have set_none : ∀ (vs : List Nat) (τ : L2.St) (i : Nat), L2.wipe (τ.set i none) vs = (L2.wipe τ vs).set i none := by
    intro vs
    induction vs with
    | nil => intro τ i; rfl
    | cons z vz ih2 =>
      intro τ i
      unfold L2.wipe
      rw [ih2]
      by_cases h : i = z
      · subst h; rfl
      · rw [List.set_comm _ _ h]
  intro vs
  induction vs with
  | nil => rfl
  | cons v vs ih =>
    show (L2.wipe ((L2.wipe σ vs).set v none) vs).set v none = (L2.wipe σ vs).set v none
    rw [set_none, ih, List.set_set]
abbrev E0 : XK := fun _ _ _ => False
theorem comp_E {it : II} {t : IT} {own : List Nat} {c : IO} {e : IE} (hown : ∀ i ∈ t.slots, i ∈ own) {σ : L2.St} {H : Hp} {Q : VK} (h : tE W E (ev C (.comp e t own it c)) σ H Q) :
    tLc (tI W E (evI C it)) (gIT W.K t) (tT W E0 (evC C c)) (tE W E0 (ev C e)) own σ H Q := by
  obtain ⟨m, ρ, st, s, r, p⟩ := h
  have p : Pg W E m H ((evI C it ρ st).bind fun w st => ((compL w (turnC C t own c e ρ) w.xs st).noex).bind fun ys st => if ys.length ≤ LIM then .ok (.loc st.length) (st ++ [.lst ys]) else .stuck) (kD W Q) := by
    rw [ev] at p; exact p
  refine ⟨m, ρ, st, s, r, p.bind.imp fun w m1 st1 H1 e1 s1 p1 J hJ D0 hD0 => ?_⟩
  -- the whole comes to YS
  have r1 := r.up s e1
  obtain ⟨YS, stE, hall, p2⟩ : ∃ YS stE, compL w (turnC C t own c e ρ) w.xs st1 = .ok YS stE ∧ Pg W E m1 H1 (if YS.length ≤ LIM then .ok (.loc stE.length) (stE ++ [.lst YS]) else .stuck) (kD W Q) := by
    cases q : compL w (turnC C t own c e ρ) w.xs st1 with
    | ok YS stE => rw [q] at p1; exact ⟨YS, stE, rfl, p1⟩
    | exc x st2 => rw [q] at p1; exact p1.elim
    | stuck => rw [q] at p1; exact p1.elim
  obtain ⟨hlim, p2⟩ := p2.ite
  have stays_of : ∀ {xs : List D} {st2 : Sto} {zs : List D}, compL w (turnC C t own c e ρ) xs st2 = .ok zs stE → w.stays st2 = true := fun {xs st2 zs} h => by
    cases xs with
    | nil => unfold compL at h; split at h; assumption; cases h
    | cons x xs => unfold compL at h; split at h; assumption; cases h
  refine ⟨fun i mm H2 => mm = w.xs.length - i ∧ i ≤ w.xs.length ∧ ∃ m2 st2 acc ys zs, Sim W H2 m2 st2 ∧ Ext m1 m2 H1 H2 ∧ H2 D0 = some (.lst acc) ∧ D0 ∉ m2 ∧ Rps W.K H2 m2 ys acc ∧
    compL w (turnC C t own c e ρ) (w.xs.drop i) st2 = .ok zs stE ∧ ys ++ zs = YS ∧ EnvR W H2 m2 ρ σ, ⟨w.xs.length, by simp, Nat.zero_le _, ?_⟩, ?_⟩
  · obtain ⟨s2, e2⟩ := s1.laid hD0 (.lst [])
    refine ⟨m1, st1, [], [], YS, s2, e2, upd_same, fun z => ?_, by rw [Rps], by simpa using hall, rfl, r1.up s1 e2⟩
    obtain ⟨o, ho, _⟩ := s1.mu z
    rw [hD0] at ho; cases ho
  · rintro i mm H2 ⟨rfl, hi, m2, st2, acc, ys, zs, s2, e2, hD, hn, ra, hc, hz, r2⟩
    have hst := stays_of hc
    obtain ⟨w1, w2⟩ := hJ H2 m2 st2 e2 s2 hst i
    by_cases hlt : i < w.xs.length
    · right
      rw [List.drop_eq_getElem_cons hlt] at hc
      unfold compL at hc
      rw [if_pos hst] at hc
      obtain ⟨o, st3, h3, hc⟩ := bind_ok hc
      obtain ⟨zs', st4, h4, hc⟩ := bind_ok hc
      injection hc with hz1 hz2
      subst hz2
      obtain ⟨g1, g2⟩ := w1 _ (List.getElem?_eq_getElem hlt)
      refine ⟨g1, fun H' => ∃ m2 st2 acc ys zs, Sim W H' m2 st2 ∧ Ext m1 m2 H1 H' ∧ H' D0 = some (.lst acc) ∧ D0 ∉ m2 ∧ Rps W.K H' m2 ys acc ∧
        compL w (turnC C t own c e ρ) (w.xs.drop (i + 1)) st2 = .ok zs st4 ∧ ys ++ zs = YS ∧ EnvR W H' m2 ρ σ, fun H' q => ⟨w.xs.length - (i + 1), by omega, rfl, hlt, q⟩, fun x H' hy => ?_⟩
      obtain ⟨rfl, rx⟩ := g2 x H' hy
      unfold turnC at h3
      split at h3
      · rename_i ρ' hρ
        refine gIT_ok rx (r2.wipe own) hρ fun σ' r3 hw => ⟨by rw [hw own hown, wipe_wipe], m2, ρ', st2, s2, r3, ?_⟩
        obtain ⟨b, st5, h5, h3⟩ := bind_ok h3
        rw [h5]
        intro H5 m5 e5 s5
        obtain ⟨k1, k2⟩ := e5.keep D0 _ hD hn
        cases b with
        | true =>
          refine iteT ⟨m5, ρ', st5, s5, r3.up s2 e5, ?_⟩
          rw [if_pos rfl] at h3
          obtain ⟨y, st6, h6, h3⟩ := bind_ok h3
          rw [h6]
          intro H6 m6 e6 s6 v rv
          obtain ⟨l1, l2⟩ := e6.keep D0 _ k1 k2
          injection h3 with h31 h32
          subst h31 h32
          have hlen : ys.length + 1 + zs'.length = YS.length := by rw [← hz, ← hz1]; simp; omega
          have e26 := (e2.trans e5).trans e6
          refine ⟨acc, l1, by rw [ra.len]; exact lim_lt (by omega), m6, st6, acc ++ [v], ys ++ [y], zs', s6.off l1 l2, e26.off hD0, upd_same, l2, ?_, h4, ?_, ?_⟩
          · exact (((ra.up s2 (e5.trans e6)).append (.one rv))).off l1
          · rw [← hz, ← hz1]; simp
          · have := r2.up s2 (e5.trans e6)
            exact ⟨this.1, fun j d hj => by
              obtain ⟨u, hu, ru⟩ := this.2 j d hj
              exact ⟨u, hu, ru.off l1⟩⟩
        | false =>
          refine iteF ?_
          rw [if_neg Bool.false_ne_true] at h3
          injection h3 with h31 h32
          subst h31 h32
          exact ⟨m5, st5, acc, ys, zs', s5, e2.trans e5, k1, k2, ra.up s2 e5, h4, by rw [← hz, ← hz1], r2.up s2 e5⟩
      · cases h3
    · left
      have hi' : i = w.xs.length := by omega
      subst hi'
      refine ⟨w2 (Nat.le_refl _), ?_⟩
      rw [List.drop_length] at hc
      unfold compL at hc
      rw [if_pos hst] at hc
      injection hc with hz1 hz2
      subst hz1 hz2
      rw [List.append_nil] at hz
      subst hz
      refine p2.go (e2.adopt hD0) (s2.adopt hD hn ra) _ ?_
      rw [Rp]
      refine ⟨D0, ?_, rfl⟩
      rw [List.getElem?_append_right (by rw [s2.len]; exact Nat.le_refl _), s2.len]
      simp
end
end Z
namespace Z
open PySem L2
section
variable {W : Wd} {cc : CC} {Ns : List Str} {k : Nat}
theorem bex {a b : Bool} (h : (a && b) = true) : a = true ∧ b = true := by rw [Bool.and_eq_true] at h; exact h
theorem bnot {a : Bool} (h : (!a) = true) : a = false := by simpa using h
theorem chkEs_stars : ∀ {es : IEs} {scp : Scope} {xs : List Expr}, chkEs cc Ns scp es xs = true → noStars xs = true
  | .nil, scp, [], h => rfl
  | .nil, scp, _ :: _, h => by unfold chkEs at h; cases h
  | .cons a r, scp, [], h => by unfold chkEs at h; cases h
  | .cons a r, scp, x :: xs, h => by
    unfold chkEs at h
    obtain ⟨h1, h2⟩ := bex h
    obtain ⟨h3, h4⟩ := bex h1
    rw [noStars, h3, chkEs_stars h2]; rfl
theorem chkEs_nil {es : IEs} {scp : Scope} {xs : List Expr} (h : chkEs cc Ns scp es xs = true) : xs = [] → es = .nil := fun e => by
  subst e
  cases es with
  | nil => rfl
  | cons a r => unfold chkEs at h; cases h
theorem XOk.blk {scp scope : Scope} {E : XK} {X : Cx} (h : XOk W Ns scp k E X) (s : Shared) (H : Hp) (C : Addr) (cl : List (Str × Addr)) (fp : List Addr) : XOk W Ns (relS scope scp) k E0 (X.blk s H scope (compEnvC scope cl C X.env) fp) :=
  ⟨h.prog, h.w, h.K, h.mg, h.base, h.N, h.nd, by rw [← h.sc]; rfl, h.calm, h.room, passL⟩
theorem XOk.tblk {scp scope : Scope} {E : XK} {X : Cx} (h : XOk W Ns scp k E X) (s : Shared) (H : Hp) (C : Addr) (cl : List (Str × Addr)) (fp : List Addr) : TOk Ns (relS scope scp) (fun x => scope.names.lookup x == some .cell) (X.blk s H scope (compEnvC scope cl C X.env) fp) :=
  ⟨h.N, h.nd, by rw [← h.sc]; rfl, rfl, h.calm⟩
def isBool : Expr → Bool
  | .BoolOp .. => true
  | _ => false
structure Tri (X : Cx) (e : Expr) (t : TE) (tt : TT) : Prop where
  pe : PE X e t
  pt : PT X e tt
  pw : isBool e = true → PW X e tt
theorem PT.of {X : Cx} {e : Expr} {E : XK} {f : Env → Sto → R D} (h : PE X e (tE W E f)) (he : plainT e = true) : PT X e (tT W E fun ρ st => (f ρ st).bind fun x st => bOf st x) :=
  PT.weak (pt_val h (isTrue_of he)) fun σ H Q w => tE_bl w
theorem Tri.plain {X : Cx} {e : Expr} {E : XK} {f : Env → Sto → R D} (h : PE X e (tE W E f)) (he : plainT e = true) : Tri X e (tE W E f) (tT W E fun ρ st => (f ρ st).bind fun x st => bOf st x) :=
  ⟨h, PT.of h he, fun z => by cases e <;> first | (cases he; done) | (cases z; done)⟩
theorem pt_ifExp {X : Cx} {c a b : Expr} {tc ta tb : TT} {pos : Pos} (hc : PT X c tc) (ha : PT X a ta) (hb : PT X b tb) : PT X (.IfExp c a b pos) (fun σ H Q => tc σ H fun k H1 => if k = true then ta σ H1 Q else tb σ H1 Q) := by
  refine ⟨fun pins s σ H Q I h => ?_⟩
  show wpAny _ _ (do if ← isTrue c X.env (eval c X.env) then isTrue a X.env (eval a X.env) else isTrue b X.env (eval b X.env)) _ _ s
  refine PySem.wpAny_bind (thn (hc.run pins s σ H _ I h) fun k s1 ⟨H1, I1, q⟩ => ?_)
  cases k with
  | true => exact ha.run pins s1 σ H1 Q I1 q
  | false => exact hb.run pins s1 σ H1 Q I1 q
theorem two_E {E : XK} {f g h' : Env → Sto → R D} {hh : D → D → Sto → R D} (e : ∀ ρ st, h' ρ st = (f ρ st).bind fun x st => (g ρ st).bind fun y st => hh x y st) {σ : L2.St} {H : Hp} {Q : VK} (w : tE W E h' σ H Q) : tE W E (fun ρ st => (f ρ st).bind fun x st => (g ρ st).bind fun y st => hh x y st) σ H Q := by
  obtain ⟨m, ρ, st, s, r, p⟩ := w
  rw [e] at p
  exact ⟨m, ρ, st, s, r, p⟩
theorem one_E {E : XK} {f h' : Env → Sto → R D} {hh : D → Sto → R D} (e : ∀ ρ st, h' ρ st = (f ρ st).bind hh) {σ : L2.St} {H : Hp} {Q : VK} (w : tE W E h' σ H Q) : tE W E (fun ρ st => (f ρ st).bind hh) σ H Q := by
  obtain ⟨m, ρ, st, s, r, p⟩ := w
  rw [e] at p
  exact ⟨m, ρ, st, s, r, p⟩
theorem units64 {scp : Scope} {E : XK} {X : Cx} (h : XOk W Ns scp k E X) : X.A.units + 64 < cLine := h.room.units
mutual
/-- THE RULE for expressions -/
theorem snd (hW : WOk W cc) (L : Lv W k) : ∀ (a : IE) {scp : Scope} {E : XK} {X : Cx} {e : Expr}, chkE cc Ns scp a e = true → XOk W Ns scp k E X → Tri X e (tE W E (ev (W.cl k) a)) (tT W E (evT (W.cl k) a))
  | .var i, scp, E, X, e, h, hX => by
    unfold chkE at h
    split at h
    · obtain ⟨h1, h4⟩ := bex h
      obtain ⟨h1, h3⟩ := bex h1
      obtain ⟨h1, h2⟩ := bex h1
      refine .plain (PE.weak (pe_var (by rw [hX.N]; exact of_decide_eq_true h1) (vis_of h2 hX.sc) (of_decide_eq_true h3) (of_decide_eq_true h4)) fun σ H Q w => tE_var w) rfl
    · cases h
  | .cst d, scp, E, X, e, h, hX => by
    unfold chkE at h
    have cst : ∀ {v : V} {t : TE}, PE X e t → (∀ σ H Q, Q v H → t σ H Q) → (∀ H m, Rp W.K H m d v) → PE X e (tE W E (ev (W.cl k) (.cst d))) := fun {v t} p q r =>
      PE.weak p fun σ H Q w => q σ H Q (tE_cst (d := d) (by obtain ⟨m, ρ, st, s, rr, w⟩ := w; rw [ev] at w; exact ⟨m, ρ, st, s, rr, w⟩) (r H))
    split at h
    · unfold cstOk at h
      split at h
      · refine .plain (cst pe_non (fun _ _ _ q => q) fun _ _ => by rw [Rp]) rfl
      · have := eq_of_beq h; subst this
        refine .plain (cst pe_bl (fun _ _ _ q => q) fun _ _ => by rw [Rp]) rfl
      · have := of_decide_eq_true h; subst this
        refine .plain (cst pe_int (fun _ _ _ q => q) fun _ _ => by rw [Rp]) rfl
      · have := of_decide_eq_true h; subst this
        refine .plain (cst pe_str (fun _ _ _ q => q) fun _ _ => by rw [Rp]) rfl
      · cases h
    · have := of_decide_eq_true h; subst this
      refine .plain (cst (pe_un un_neg pe_int) (fun _ _ _ q => ⟨_, rfl, q⟩) fun _ _ => by rw [Rp]) rfl
    · cases h
  | .gl d, scp, E, X, e, h, hX => by
    unfold chkE at h
    split at h
    · obtain ⟨h1, h2⟩ := bex h
      obtain ⟨g1, g2⟩ := gl_of h1 hX.sc
      obtain ⟨u, v, k1, k2, k3⟩ := hW.gl _ d (of_decide_eq_true h2)
      refine .plain (PE.weak (pe_glob g1 (by rw [hX.mg]; exact k1) k2 g2) fun σ H Q w => tE_cst (d := d) (v := v) (by obtain ⟨m, ρ, st, s, rr, w⟩ := w; rw [ev] at w; exact ⟨m, ρ, st, s, rr, w⟩) (k3 H)) rfl
    · cases h
  | .tup es, scp, E, X, e, h, hX => by
    unfold chkE at h
    split at h
    · refine .plain (PE.weak (pe_tup (sndEs hW L es h hX)) fun σ H Q w => tup_E w) rfl
    · cases h
  | .lst es, scp, E, X, e, h, hX => by
    unfold chkE at h
    split at h
    · refine .plain (PE.weak (pe_lst (sndEs hW L es h hX)) fun σ H Q w => lst_E w) rfl
    · cases h
  | .bin o a b, scp, E, X, e, h, hX => by
    unfold chkE at h
    split at h
    · obtain ⟨h1, h3⟩ := bex h
      obtain ⟨h1, h2⟩ := bex h1
      refine .plain (PE.weak (pe_op (op_rBin h1 hX.K) (snd hW L a h2 hX).pe (snd hW L b h3 hX).pe) fun σ H Q w => (two_E (fun ρ st => by rw [ev]) w).two fun m st H d v e u s r1 r2 p => bin_ok s r1 r2 p) rfl
    · cases h
  | .cmp o a b, scp, E, X, e, h, hX => by
    unfold chkE at h
    split at h
    · obtain ⟨h1, h4⟩ := bex h
      obtain ⟨h1, h3⟩ := bex h1
      obtain ⟨h1, h2⟩ := bex h1
      have two : ∀ σ H Q, tE W E (ev (W.cl k) (.cmp o a b)) σ H Q → tOp (rCmp W o) (tE W E (ev (W.cl k) a)) (tE W E (ev (W.cl k) b)) σ H Q := fun σ H Q w => (two_E (fun ρ st => by rw [ev]) w).two fun m st H d v e u s r1 r2 p => cmp_ok s r1 r2 p
      exact ⟨PE.weak (pe_cmpR (op_rCmp h1 hX.K (units64 hX)) (snd hW L a h3 hX).pe (snd hW L b h4 hX).pe (bnot h2)) two, PT.weak (pt_cmpR (op_rCmp h1 hX.K (units64 hX)) (snd hW L a h3 hX).pe (snd hW L b h4 hX).pe (bnot h2)) fun σ H Q w => two σ H _ (tE_bl w), fun z => by cases z⟩
    · cases h
  | .and a b, scp, E, X, e, h, hX => by
    unfold chkE at h
    split at h
    · obtain ⟨h1, h2⟩ := bex h
      have q := PW.weak (pw_and (pos := ‹Pos›) (snd hW L a h1 hX).pt (pw_and1 (snd hW L b h2 hX).pt)) fun σ H Q w => and_T (C := W.cl k) (a := a) (b := b) w
      exact ⟨PE.weak (pe_and (snd hW L a h1 hX).pe (pe_one (snd hW L b h2 hX).pe)) fun σ H Q w => and_V w, q.pt, fun _ => q⟩
    · obtain ⟨h1, h2⟩ := bex h
      have q := PW.weak (pw_and (pos := ‹Pos›) (snd hW L a h1 hX).pt ((snd hW L b h2 hX).pw rfl)) fun σ H Q w => and_T (C := W.cl k) (a := a) (b := b) w
      exact ⟨PE.weak (pe_and (snd hW L a h1 hX).pe (snd hW L b h2 hX).pe) fun σ H Q w => and_V w, q.pt, fun _ => q⟩
    · cases h
  | .or a b, scp, E, X, e, h, hX => by
    unfold chkE at h
    split at h
    · obtain ⟨h1, h2⟩ := bex h
      have q := PW.weak (pw_or (pos := ‹Pos›) (snd hW L a h1 hX).pt (pw_or1 (snd hW L b h2 hX).pt)) fun σ H Q w => or_T (C := W.cl k) (a := a) (b := b) w
      exact ⟨PE.weak (pe_or (snd hW L a h1 hX).pe (pe_one (snd hW L b h2 hX).pe)) fun σ H Q w => or_V w, q.pt, fun _ => q⟩
    · obtain ⟨h1, h2⟩ := bex h
      have q := PW.weak (pw_or (pos := ‹Pos›) (snd hW L a h1 hX).pt ((snd hW L b h2 hX).pw rfl)) fun σ H Q w => or_T (C := W.cl k) (a := a) (b := b) w
      exact ⟨PE.weak (pe_or (snd hW L a h1 hX).pe (snd hW L b h2 hX).pe) fun σ H Q w => or_V w, q.pt, fun _ => q⟩
    · cases h
  | .not a, scp, E, X, e, h, hX => by
    unfold chkE at h
    split at h
    · exact ⟨PE.weak (pe_not (snd hW L a h hX).pe) fun σ H Q w => not_V w, PT.weak (pt_not (snd hW L a h hX).pt) fun σ H Q w => not_T w, fun z => by cases z⟩
    · cases h
  | .ite c a b, scp, E, X, e, h, hX => by
    unfold chkE at h
    split at h
    · obtain ⟨h1, h3⟩ := bex h
      obtain ⟨h1, h2⟩ := bex h1
      exact ⟨PE.weak (pe_ifExp (snd hW L c h1 hX).pt (snd hW L a h2 hX).pe (snd hW L b h3 hX).pe) fun σ H Q w => ite_V w, PT.weak (pt_ifExp (snd hW L c h1 hX).pt (snd hW L a h2 hX).pt (snd hW L b h3 hX).pt) fun σ H Q w => ite_T w, fun z => by cases z⟩
    · cases h
  | .ix a i, scp, E, X, e, h, hX => by
    unfold chkE at h
    split at h
    · obtain ⟨h1, h3⟩ := bex h
      obtain ⟨h1, h2⟩ := bex h1
      have q := ix_seq (X := X)
      rw [hX.K] at q
      refine .plain (PE.weak (pe_ix q (snd hW L a h2 hX).pe (snd hW L i h3 hX).pe (plainIx_of (bnot h1))) fun σ H Q w => (two_E (fun ρ st => by rw [ev]) w).two fun m st H d v e u s r1 r2 p => ix_ok s r1 r2 p) rfl
    · cases h
  | .sl a lo hi, scp, E, X, e, h, hX => by
    unfold chkE at h
    split at h
    · obtain ⟨h1, h3⟩ := bex h
      obtain ⟨h1, h2⟩ := bex h1
      refine .plain (PE.weak (pe_slice (op_rSl hX.K) (snd hW L a h1 hX).pe (sndO hW L lo h2 hX) (sndO hW L hi h3 hX)) fun σ H Q w => ?_) rfl
      obtain ⟨m, ρ, st, s, r, p⟩ := w
      rw [ev] at p
      refine ⟨m, ρ, st, s, r, p.bind.imp fun d m1 st1 H1 e1 s1 p1 v rv => ?_⟩
      refine ⟨m1, ρ, st1, s1, r.up s e1, p1.bind.imp fun l m2 st2 H2 e2 s2 p2 => ?_⟩
      exact ⟨m2, ρ, st2, s2, (r.up s e1).up s1 e2, p2.bind.imp fun u m3 st3 H3 e3 s3 p3 => sl_ok s3 ((rv.up s1 e2).up s2 e3) p3⟩
    · cases h
  | .rev a, scp, E, X, e, h, hX => by
    unfold chkE at h
    split at h
    · refine .plain (PE.weak (pe_revL (snd hW L a h hX).pe) fun σ H Q w => (one_E (fun ρ st => by rw [ev]) w).one fun m st H d v s r p => ?_) rfl
      rw [hX.K]
      exact rev_ok s r p
    · cases h
  | .fld a f, scp, E, X, e, h, hX => by
    unfold chkE at h
    split at h
    · obtain ⟨h1, h4⟩ := bex h
      obtain ⟨h1, h3⟩ := bex h1
      obtain ⟨h1, h2⟩ := bex h1
      have := of_decide_eq_true h1; subst this
      refine .plain (PE.weak (pe_fld (snd hW L a h4 hX).pe (base_of h3)) fun σ H Q w => by rw [hX.K]; exact fld_E hW (of_decide_eq_true h2) w) rfl
    · cases h
  | .isi a kd, scp, E, X, e, h, hX => by
    unfold chkE at h
    split at h
    · obtain ⟨h1, h6⟩ := bex h
      obtain ⟨h1, h5⟩ := bex h1
      obtain ⟨h1, h4⟩ := bex h1
      obtain ⟨h1, h3⟩ := bex h1
      obtain ⟨h1, h2⟩ := bex h1
      refine .plain (pe_isiE hX hW (of_decide_eq_true h1) (of_decide_eq_true h2) h3 h4 (bnot h5) (snd hW L a h6 hX).pe) rfl
    · cases h
  | .bi b a, scp, E, X, e, h, hX => by
    unfold chkE at h
    split at h
    · obtain ⟨h1, h4⟩ := bex h
      obtain ⟨h1, h3⟩ := bex h1
      obtain ⟨h1, h2⟩ := bex h1
      refine .plain (pe_biE hX hW (of_decide_eq_true h1) h2 (bnot h3) (snd hW L a h4 hX).pe) rfl
    · cases h
  | .call f es, scp, E, X, e, h, hX => by
    unfold chkE at h
    split at h
    · obtain ⟨h1, h3⟩ := bex h
      obtain ⟨h1, h2⟩ := bex h1
      refine .plain (pe_callE hX hW L (of_decide_eq_true h1) h2 (chkEs_stars h3) (sndEs hW L es h3 hX) (chkEs_nil h3)) rfl
    · cases h
  | .mk c es, scp, E, X, e, h, hX => by
    unfold chkE at h
    split at h
    · obtain ⟨h1, h3⟩ := bex h
      obtain ⟨h1, h2⟩ := bex h1
      refine .plain (pe_mkE hX hW L (of_decide_eq_true h1) h2 (chkEs_stars h3) (sndEs hW L es h3 hX) (chkEs_nil h3)) rfl
    · cases h
  | .me0 me a, scp, E, X, e, h, hX => by
    unfold chkE at h
    split at h
    · obtain ⟨h1, h5⟩ := bex h
      obtain ⟨h1, h4⟩ := bex h1
      obtain ⟨h1, h3⟩ := bex h1
      obtain ⟨h1, h2⟩ := bex h1
      refine .plain (pe_me0E hX (of_decide_eq_true h1) h3 h4 (of_decide_eq_true h2) (snd hW L a h5 hX).pe) rfl
    · cases h
  | .me1 me a b, scp, E, X, e, h, hX => by
    unfold chkE at h
    split at h
    · obtain ⟨h1, h7⟩ := bex h
      obtain ⟨h1, h6⟩ := bex h1
      obtain ⟨h1, h5⟩ := bex h1
      obtain ⟨h1, h4⟩ := bex h1
      obtain ⟨h1, h3⟩ := bex h1
      obtain ⟨h1, h2⟩ := bex h1
      refine .plain (pe_me1E hX (of_decide_eq_true h1) h3 h5 (of_decide_eq_true h2) (bnot h4) (snd hW L a h6 hX).pe (snd hW L b h7 hX).pe) rfl
    · cases h
  | .om x mi a es, scp, E, X, e, h, hX => by
    unfold chkE at h
    split at h
    · obtain ⟨h1, h7⟩ := bex h
      obtain ⟨h1, h6⟩ := bex h1
      obtain ⟨h1, h5⟩ := bex h1
      obtain ⟨h1, h4⟩ := bex h1
      obtain ⟨h1, h3⟩ := bex h1
      obtain ⟨h1, h2⟩ := bex h1
      have := of_decide_eq_true h1; subst this
      refine .plain (pe_omE hX hW L (of_decide_eq_true h2) h3 h4 (of_decide_eq_true h5) (snd hW L a h6 hX).pe (chkEs_stars h7) (sndEs hW L es h7 hX) (chkEs_nil h7)) rfl
    · cases h
  | .comp a t own it c, scp, E, X, e, h, hX => by
    unfold chkE at h
    split at h
    · rename_i _ elt tg iter ifs kk scope pos
      obtain ⟨h1, h8⟩ := bex h
      obtain ⟨h1, h7⟩ := bex h1
      obtain ⟨h1, h6⟩ := bex h1
      obtain ⟨h1, h5⟩ := bex h1
      obtain ⟨h1, h4⟩ := bex h1
      obtain ⟨h1, h3⟩ := bex h1
      obtain ⟨h1, h2⟩ := bex h1
      have := of_decide_eq_true h1; subst this
      have hown : ∀ i ∈ t.slots, i ∈ own := fun i hi => of_decide_eq_true (List.all_eq_true.mp h3 i hi)
      have hblk := blkOk_by h2
      have e2 : (own.map fun i => (Ns.getD i "", i)).map (·.2) = own := by rw [List.map_map]; exact (List.map_congr_left fun _ _ => rfl).trans (List.map_id _)
      have q := pe_lc (X := X) (elt := elt) (tg := tg) (iter := iter) (ifs := ifs) (scope := scope) (pos := pos) (wi := tI W E (evI (W.cl k) it)) (g := gIT W.K t) (tt := tT W E0 (evC (W.cl k) c)) (te := tE W E0 (ev (W.cl k) a)) (own := own.map fun i => (Ns.getD i "", i)) hX.calm (by rw [hX.N]; exact hX.nd) (sndI hW L it h5 hX) (by rw [hX.N, hX.sc]; exact hblk)
        (fun s H C cl fp => by
          have z := pg_IT (hX.tblk s H C cl fp) h4
          have ek : (X.blk s H scope (compEnvC scope cl C X.env) fp).K = W.K := hX.K
          rw [ek] at z
          exact z)
        (fun s H C cl fp => sndC hW L c h7 (hX.blk s H C cl fp)) (fun s H C cl fp => (snd hW L a h8 (hX.blk s H C cl fp)).pe) (foldSet_of (bnot h6))
      rw [e2] at q
      refine .plain (PE.weak q fun σ H Q w => comp_E hown w) rfl
    · cases h
theorem sndEs (hW : WOk W cc) (L : Lv W k) : ∀ (a : IEs) {scp : Scope} {E : XK} {X : Cx} {e : List Expr}, chkEs cc Ns scp a e = true → XOk W Ns scp k E X → PA X e (tA W E (evs (W.cl k) a))
  | .nil, scp, E, X, e, h, hX => by
    unfold chkEs at h
    split at h
    · exact PA.of_nil rfl
    · cases h
  | .cons a r, scp, E, X, e, h, hX => by
    unfold chkEs at h
    split at h
    · obtain ⟨h1, h3⟩ := bex h
      obtain ⟨h1, h2⟩ := bex h1
      exact PA.weak (pa_cons (snd hW L a h2 hX).pe (sndEs hW L r h3 hX) (star_cons (bnot h1))) fun σ H Q w => evs_cons w
    · cases h
theorem sndO (hW : WOk W cc) (L : Lv W k) : ∀ (a : IO) {scp : Scope} {E : XK} {X : Cx} {e : Option Expr}, chkO cc Ns scp a e = true → XOk W Ns scp k E X → PO X e (tO W E (evO (W.cl k) a))
  | .none, scp, E, X, e, h, hX => by
    unfold chkO at h
    split at h
    · refine PO.weak po_none fun σ H Q w => ?_
      obtain ⟨m, ρ, st, s, r, p⟩ := w
      rw [evO] at p
      exact p.now s
    · cases h
  | .some a, scp, E, X, e, h, hX => by
    unfold chkO at h
    split at h
    · refine PO.weak (po_some (snd hW L a h hX).pe) fun σ H Q w => ?_
      obtain ⟨m, ρ, st, s, r, p⟩ := w
      rw [evO] at p
      refine ⟨m, ρ, st, s, r, p.bind.imp fun d m1 st1 H1 e1 s1 p1 v rv => ?_⟩
      obtain ⟨i, rfl, p2⟩ := p1.iOf
      rw [Rp] at rv; subst rv
      exact ⟨i, rfl, p2.now s1⟩
    · cases h
theorem sndC (hW : WOk W cc) (L : Lv W k) : ∀ (a : IO) {scp : Scope} {E : XK} {X : Cx} {e : List Expr}, chkC cc Ns scp a e = true → XOk W Ns scp k E X → PTs X e (tT W E (evC (W.cl k) a))
  | .none, scp, E, X, e, h, hX => by
    unfold chkC at h
    split at h
    · refine ⟨fun pins s σ H Q I w => pts_nil.run pins s σ H Q I ?_⟩
      obtain ⟨m, ρ, st, s, r, p⟩ := w
      rw [evC] at p
      exact p.now s
    · cases h
  | .some a, scp, E, X, e, h, hX => by
    unfold chkC at h
    split at h
    · refine ⟨fun pins s σ H Q I w => (pts_one (snd hW L a h hX).pt).run pins s σ H Q I ?_⟩
      obtain ⟨m, ρ, st, s, r, p⟩ := w
      rw [evC] at p
      exact ⟨m, ρ, st, s, r, p⟩
    · cases h
theorem sndI (hW : WOk W cc) (L : Lv W k) : ∀ (a : II) {scp : Scope} {E : XK} {X : Cx} {tg e : Expr}, chkI cc Ns scp a e = true → XOk W Ns scp k E X → PI X tg e (tI W E (evI (W.cl k) a))
  | .it a, scp, E, X, tg, e, h, hX => by
    unfold chkI at h
    exact pi_itE hX.K (snd hW L a h hX).pe
  | .rng1 a, scp, E, X, tg, e, h, hX => by
    unfold chkI at h
    split at h
    · obtain ⟨h1, h4⟩ := bex h
      obtain ⟨h1, h3⟩ := bex h1
      obtain ⟨h1, h2⟩ := bex h1
      exact pi_rng1E hX hW (of_decide_eq_true h1) h2 (bnot h3) (snd hW L a h4 hX).pe
    · cases h
  | .rng2 a b, scp, E, X, tg, e, h, hX => by
    unfold chkI at h
    split at h
    · obtain ⟨h1, h6⟩ := bex h
      obtain ⟨h1, h5⟩ := bex h1
      obtain ⟨h1, h4⟩ := bex h1
      obtain ⟨h1, h3⟩ := bex h1
      obtain ⟨h1, h2⟩ := bex h1
      exact pi_rng2E hX hW (of_decide_eq_true h1) h2 (bnot h3) (bnot h4) (snd hW L a h5 hX).pe (snd hW L b h6 hX).pe
    · cases h
end
end
end Z
namespace Z
open PySem L2
/-! ### statements -/
def PgS (W : Wd) (E : XK) (m : List Addr) (H : Hp) (r : SR) (D : Ends) : Prop := match r with
  | .ok .nx ρ st => ∀ σ' H' m', Ext m m' H H' → Sim W H' m' st → EnvR W H' m' ρ σ' → D.nx σ' H'
  | .ok .bk ρ st => ∀ σ' H' m', Ext m m' H H' → Sim W H' m' st → EnvR W H' m' ρ σ' → D.bk σ' H'
  | .ok .ct ρ st => ∀ σ' H' m', Ext m m' H H' → Sim W H' m' st → EnvR W H' m' ρ σ' → D.ct σ' H'
  | .ok (.rt d) _ st => ∀ v H' m', Ext m m' H H' → Sim W H' m' st → Rp W.K H' m' d v → D.rt v H'
  | .exc e _ st => ∀ dx H' m', Ext m m' H H' → Sim W H' m' st → ExR W H' m' e dx → E (.ref (W.ca e.c)) dx H'
  | .stuck => False
def tS (W : Wd) (E : XK) (f : Env → Sto → SR) : TS := fun D σ H => ∃ m ρ st, Sim W H m st ∧ EnvR W H m ρ σ ∧ PgS W E m H (f ρ st) D
section
variable {W : Wd} {E : XK} {m m' : List Addr} {H H' : Hp} {α : Type} {D : Ends}
theorem PgS.up {r : SR} (e : Ext m m' H H') (h : PgS W E m H r D) : PgS W E m' H' r D := by
  cases r with
  | ok f ρ st => cases f with
    | nx => exact fun σ2 H2 m2 e2 => h σ2 H2 m2 (e.trans e2)
    | bk => exact fun σ2 H2 m2 e2 => h σ2 H2 m2 (e.trans e2)
    | ct => exact fun σ2 H2 m2 e2 => h σ2 H2 m2 (e.trans e2)
    | rt d => exact fun v H2 m2 e2 => h v H2 m2 (e.trans e2)
  | exc x ρ st => exact fun dx H2 m2 e2 => h dx H2 m2 (e.trans e2)
  | stuck => exact h
theorem PgS.sbind {r : R α} {ρ : Env} {f : α → Sto → SR} (h : PgS W E m H (r.sbind ρ f) D) : Pg W E m H r fun a m' st' H' => PgS W E m' H' (f a st') D := by
  cases r with
  | ok a st => exact fun H2 m2 e2 s2 => PgS.up e2 h
  | exc x st => exact h
  | stuck => exact h
/-- behind a statement -/
def kNx (W : Wd) (E : XK) (m : List Addr) (H : Hp) (f : Env → Sto → SR) (D : Ends) : L2.St → Hp → Prop := fun σ' H' => ∃ m' ρ' st', Ext m m' H H' ∧ Sim W H' m' st' ∧ EnvR W H' m' ρ' σ' ∧ PgS W E m' H' (f ρ' st') D
theorem PgS.then {r : SR} {f : Env → Sto → SR} (h : PgS W E m H (r.then f) D) : PgS W E m H r { D with nx := kNx W E m H f D } := by
  cases r with
  | ok g ρ st => cases g with
    | nx => exact fun σ2 H2 m2 e2 s2 r2 => ⟨m2, ρ, st, e2, s2, r2, PgS.up e2 h⟩
    | bk => exact h
    | ct => exact h
    | rt d => exact h
  | exc x ρ st => exact h
  | stuck => exact h
theorem PgS.turn {r : SR} {f : Env → Sto → SR} (h : PgS W E m H (r.turn f) D) : PgS W E m H r { D with nx := kNx W E m H f D, ct := kNx W E m H f D, bk := D.nx } := by
  cases r with
  | ok g ρ st => cases g with
    | nx => exact fun σ2 H2 m2 e2 s2 r2 => ⟨m2, ρ, st, e2, s2, r2, PgS.up e2 h⟩
    | bk => exact h
    | ct => exact fun σ2 H2 m2 e2 s2 r2 => ⟨m2, ρ, st, e2, s2, r2, PgS.up e2 h⟩
    | rt d => exact h
  | exc x ρ st => exact h
  | stuck => exact h
theorem PgS.ite {c : Prop} [Decidable c] {a : SR} (h : PgS W E m H (if c then a else .stuck) D) : c ∧ PgS W E m H a D := by
  by_cases hc : c
  · rw [if_pos hc] at h; exact ⟨hc, h⟩
  · rw [if_neg hc] at h; exact h.elim
end
section
variable {W : Wd} {cc : CC} {Ns : List Str} {scp : Scope} {k : Nat} {E : XK} {X : Cx} {C : Cl} {F : Nat} {D : Ends} {σ : L2.St} {H : Hp}
theorem asg_S {t : IT} {e : IE} (h : tS W E (evS C F (.asg t e)) D σ H) : tAsg (tE W E (ev C e)) (gIT W.K t) D σ H := by
  obtain ⟨m, ρ, st, s, r, p⟩ := h
  rw [evS] at p
  refine ⟨m, ρ, st, s, r, p.sbind.imp fun d m1 st1 H1 e1 s1 p1 v rv => ?_⟩
  split at p1
  · rename_i ρ' hρ
    exact gIT_ok rv (r.up s e1) hρ fun σ' r' _ => p1 σ' H1 m1 Ext.refl s1 r'
  · exact p1.elim
theorem setf_S (hW : WOk W cc) {a e : IE} {f : Str} (hf : f ∈ cc.flds) (h : tS W E (evS C F (.setf a f e)) D σ H) : sFld W.K (tE W E (ev C a)) (tE W E (ev C e)) f D σ H := by
  obtain ⟨m, ρ, st, s, r, p⟩ := h
  rw [evS] at p
  refine ⟨m, ρ, st, s, r, p.sbind.imp fun y m1 st1 H1 e1 s1 p1 vy ry => ?_⟩
  have r1 := r.up s e1
  refine ⟨m1, ρ, st1, s1, r1, p1.sbind.imp fun x m2 st2 H2 e2 s2 p2 vx rx => ?_⟩
  have r2 := r1.up s1 e2
  have ry := ry.up s1 e2
  cases x with
  | loc n =>
    simp only at p2
    split at p2
    · rename_i c fs hc
      obtain ⟨hlen, p2⟩ := p2.ite
      obtain ⟨ad, had, dx, gs, hcl, h1, h2⟩ := s2.at hc
      rw [Rp] at rx
      obtain ⟨a', ha', rfl⟩ := rx
      rw [had] at ha'; cases ha'
      have hl : gs.length = fs.length := by have := congrArg List.length h2.1; simpa using this
      refine ⟨ad, W.ca c, dx, gs, rfl, h1, hW.cls c hcl, hW.nf c f hcl hf, by omega, ?_⟩
      have e0 : Ext m2 m2 H2 (upd H2 ad (.ins (W.ca c) dx (putF f vy gs))) := ⟨⟨[], by simp⟩, fun b u h nn => ⟨by
        rw [upd_ne fun z => nn (by rw [z]; exact List.mem_of_getElem? had)]; exact h, nn⟩⟩
      obtain ⟨s3, e3⟩ := s2.write had (o := .ins (W.ca c) dx (putF f vy gs)) (c := .ins c (putF' f y fs)) ⟨dx, _, hcl, upd_same, (h2.up s2 e0).put (ry.up s2 e0)⟩
      exact p2 σ _ m2 e3 s3 (r2.up s2 e3)
    · exact p2.elim
  | _ => exact p2.elim
theorem seti_S {a i e : IE} (h : tS W E (evS C F (.seti a i e)) D σ H) : tAsg (tE W E (ev C e)) (gSub (tE W E (ev C a)) (tE W E (ev C i)) rSetL) D σ H := by
  obtain ⟨m, ρ, st, s, r, p⟩ := h
  rw [evS] at p
  refine ⟨m, ρ, st, s, r, p.sbind.imp fun y m1 st1 H1 e1 s1 p1 vy ry => ?_⟩
  have r1 := r.up s e1
  refine ⟨m1, ρ, st1, s1, r1, p1.sbind.imp fun x m2 st2 H2 e2 s2 p2 vx rx => ?_⟩
  have r2 := r1.up s1 e2
  refine ⟨m2, ρ, st2, s2, r2, p2.sbind.imp fun z m3 st3 H3 e3 s3 p3 vz rz => ?_⟩
  have r3 := r2.up s2 e3
  have rx := rx.up s2 e3
  have ry := (ry.up s1 e2).up s2 e3
  split at p3
  · skip
    split at p3
    · rename_i xs hx
      split at p3
      · rename_i j hj
        obtain ⟨b, vs, rfl, hb, h1, h2⟩ := list_at s3 rx hx
        rw [Rp] at rz; subst rz
        refine ⟨b, vs, _, j, rfl, rfl, h1, by rw [h2.len]; exact hj, ?_⟩
        have e0 : Ext m3 m3 H3 (upd H3 b (.lst (vs.set j vy))) := ⟨⟨[], by simp⟩, fun c u h nn => ⟨by
          rw [upd_ne fun z => nn (by rw [z]; exact List.mem_of_getElem? hb)]; exact h, nn⟩⟩
        obtain ⟨s4, e4⟩ := s3.write hb (o := .lst (vs.set j vy)) (c := .lst (xs.set j y)) ⟨_, upd_same, (h2.up s3 e0).set (ry.up s3 e0) j⟩
        exact p3 σ _ m3 e4 s4 (r3.up s3 e4)
      · exact p3.elim
    · exact p3.elim
  · exact p3.elim
theorem expr_S {e : IE} (h : tS W E (evS C F (.expr e)) D σ H) : tDrop (tE W E (ev C e)) D σ H := by
  obtain ⟨m, ρ, st, s, r, p⟩ := h
  rw [evS] at p
  exact ⟨m, ρ, st, s, r, p.sbind.imp fun d m1 st1 H1 e1 s1 p1 v rv => p1 σ H1 m1 Ext.refl s1 (r.up s e1)⟩
theorem ret_S {e : IE} (h : tS W E (evS C F (.ret e)) D σ H) : tRet (tE W E (ev C e)) D σ H := by
  obtain ⟨m, ρ, st, s, r, p⟩ := h
  rw [evS] at p
  exact ⟨m, ρ, st, s, r, p.sbind.imp fun d m1 st1 H1 e1 s1 p1 v rv => p1 v H1 m1 Ext.refl s1 rv⟩
theorem ite_S {c : IE} {a b : ISs} (h : tS W E (evS C F (.ite c a b)) D σ H) : tIfS (tT W E (evT C c)) (tS W E (evSs C F a)) (tS W E (evSs C F b)) D σ H := by
  obtain ⟨m, ρ, st, s, r, p⟩ := h
  rw [evS] at p
  refine ⟨m, ρ, st, s, r, p.sbind.imp fun k m1 st1 H1 e1 s1 p1 => ?_⟩
  cases k with
  | true => exact iteT ⟨m1, ρ, st1, s1, r.up s e1, p1⟩
  | false => exact iteF ⟨m1, ρ, st1, s1, r.up s e1, p1⟩
theorem whl_S {c : IE} {b : ISs} (h : tS W E (evS C F (.whl c b)) D σ H) : tWhile (tT W E (evT C c)) (tS W E (evSs C F b)) D σ H := by
  obtain ⟨m, ρ, st, s, r, p⟩ := h
  rw [evS] at p
  refine ⟨fun n σ H => ∃ m ρ st, Sim W H m st ∧ EnvR W H m ρ σ ∧ PgS W E m H (loopW (evT C c) (evSs C F b) n ρ st) D, ⟨F, m, ρ, st, s, r, p⟩, ?_⟩
  rintro n σ H ⟨m, ρ, st, s, r, p⟩
  cases n with
  | zero => exact p.elim
  | succ n =>
    rw [loopW] at p
    refine ⟨m, ρ, st, s, r, p.sbind.imp fun k m1 st1 H1 e1 s1 p1 => ?_⟩
    have r1 := r.up s e1
    cases k with
    | true =>
      refine iteT ⟨kNx W E m1 H1 (loopW (evT C c) (evSs C F b) n) D, fun σ' H' ⟨m', ρ', st', _, s', r', p'⟩ => ⟨n, Nat.lt_succ_self n, m', ρ', st', s', r', p'⟩, m1, ρ, st1, s1, r1, ?_⟩
      rw [if_pos rfl] at p1
      exact p1.turn
    | false =>
      rw [if_neg Bool.false_ne_true] at p1
      exact iteF (p1 σ H1 m1 Ext.refl s1 r1)
theorem for_S {t : IT} {it : II} {b : ISs} (h : tS W E (evS C F (.for_ t it b)) D σ H) : tFor (tI W E (evI C it)) (gIT W.K t) (tS W E (evSs C F b)) D σ H := by
  obtain ⟨m, ρ, st, s, r, p⟩ := h
  rw [evS] at p
  refine ⟨m, ρ, st, s, r, p.sbind.imp fun w m1 st1 H1 e1 s1 p1 J hJ => ?_⟩
  have r1 := r.up s e1
  refine ⟨fun i mm σ H => mm = w.xs.length - i ∧ i ≤ w.xs.length ∧ ∃ m ρ st, Ext m1 m H1 H ∧ Sim W H m st ∧ EnvR W H m ρ σ ∧ PgS W E m H (loopF w t (evSs C F b) (w.xs.drop i) ρ st) D,
    ⟨w.xs.length, by simp, Nat.zero_le _, m1, ρ, st1, Ext.refl, s1, r1, by simpa using p1⟩, ?_⟩
  rintro i mm σ H2 ⟨rfl, hi, m2, ρ2, st2, e2, s2, r2, p2⟩
  by_cases hlt : i < w.xs.length
  · right
    rw [List.drop_eq_getElem_cons hlt] at p2
    unfold loopF at p2
    obtain ⟨hst, p2⟩ := p2.ite
    obtain ⟨w1, w2⟩ := hJ H2 m2 st2 e2 s2 hst i
    obtain ⟨g1, g2⟩ := w1 _ (List.getElem?_eq_getElem hlt)
    refine ⟨g1, kNx W E m2 H2 (loopF w t (evSs C F b) (w.xs.drop (i + 1))) D, fun σ' H' ⟨m', ρ', st', e', s', r', p'⟩ => ⟨w.xs.length - (i + 1), by omega, rfl, hlt, m', ρ', st', e2.trans e', s', r', p'⟩, fun x H' hy => ?_⟩
    obtain ⟨rfl, rx⟩ := g2 x H' hy
    split at p2
    · rename_i ρ' hρ
      exact gIT_ok rx r2 hρ fun σ' r' _ => ⟨m2, ρ', st2, s2, r', p2.turn⟩
    · exact p2.elim
  · left
    have hi' : i = w.xs.length := by omega
    subst hi'
    rw [List.drop_length] at p2
    unfold loopF at p2
    obtain ⟨hst, p2⟩ := p2.ite
    exact ⟨(hJ H2 m2 st2 e2 s2 hst _).2 (Nat.le_refl _), p2 σ H2 m2 Ext.refl s2 r2⟩

/-! ### blocks -/
structure SOk (W : Wd) (Ns : List Str) (scp : Scope) (k : Nat) (E : XK) (X : Cx) : Prop extends XOk W Ns scp k E X where
  fn : X.fn = fun _ => true
  kd : scp.kind = .function
  own : PassesOwn (model X.prog X.w) X.A X.env X.xe
theorem SOk.t (h : SOk W Ns scp k E X) : TOk Ns scp (fun _ => true) X := ⟨h.N, h.nd, h.sc, h.fn, h.calm⟩
theorem sw_plain {v : Expr} {t : Option Expr} {l : Nat} {env : PySem.Env} (h : isComp v = false) : swapsWith v t l env = pure false := by
  cases v <;> first | rfl | cases h
theorem sw_attr {v o : Expr} {f : Str} {p : Pos} {l : Nat} {env : PySem.Env} : swapsWith v (some (.Attribute o f p)) l env = pure false := by
  cases v <;> rfl
theorem sw_sub {v o i : Expr} {p : Pos} {l : Nat} {env : PySem.Env} : swapsWith v (some (.Subscript o i p)) l env = pure false := by
  cases v <;> rfl
theorem swap_none {tg v : Expr} {env : PySem.Env} (h : bothTup tg v = false) (ht : ∀ es p, tg ≠ .List es p) : swappedStores [tg] v env = pure none := by
  cases tg with
  | List es p => exact absurd rfl (ht es p)
  | Tuple ts k p => cases v <;> first | rfl | cases h
  | _ => rfl
theorem sub_store {o i : Expr} {pos : Pos} {env : PySem.Env} (h : isSlice i = false) : ∀ v, assign (.Subscript o i pos) env v = (do
      let ov ← holding [v] (eval o env)
      let iv ← holding [v, ov] (eval i env)
      standAt pos
      holding [v, ov, iv] (setItem ov iv v)
      release [v, ov, iv] []) := by
  intro v
  cases i <;> first | rfl | cases h
end
end Z
namespace Z
open PySem L2
section
variable {W : Wd} {cc : CC} {Ns : List Str} {k : Nat}
/-- name = [.. for ..] -/
theorem set_comp (hW : WOk W cc) (L : Lv W k) {scp : Scope} {E : XK} {X : Cx} {e : IE} {elt : Expr} {gs : List Comprehension} {scope : Scope} {pos py spos : Pos} {y : Str} {i : Nat} (hX : SOk W Ns scp k E X)
    (h : chkE cc Ns scp e (.ListComp elt gs scope pos) = true) (hi : Ns[i]? = some y) (hl : scp.names.lookup y = some .local) (hline : (py.line == pos.line) = true) (hno : (scope.names.any fun (n, k) => n == y && (k == .local || k == .cell)) = false) :
    PS X (.Assign [.Name y py] (.ListComp elt gs scope pos) spos) (tAsg (tE W E (ev (W.cl k) e)) (gName i)) := by
  cases e with
  | comp a t own it c =>
    unfold chkE at h
    split at h
    · rename_i x elt tg iter ifs kk scope pos ee
      injection ee with ee1 ee2 ee3 ee4
      subst ee1 ee2 ee3 ee4
      obtain ⟨h1, h8⟩ := bex h
      obtain ⟨h1, h7⟩ := bex h1
      obtain ⟨h1, h6⟩ := bex h1
      obtain ⟨h1, h5⟩ := bex h1
      obtain ⟨h1, h4⟩ := bex h1
      obtain ⟨h1, h3⟩ := bex h1
      obtain ⟨h1, h2⟩ := bex h1
      have := of_decide_eq_true h1; subst this
      have hX' := hX.toXOk
      have hown : ∀ i ∈ t.slots, i ∈ own := fun i hi => of_decide_eq_true (List.all_eq_true.mp h3 i hi)
      have hblk := blkOk_by h2
      have e2 : (own.map fun i => (Ns.getD i "", i)).map (·.2) = own := by rw [List.map_map]; exact (List.map_congr_left fun _ _ => rfl).trans (List.map_id _)
      have q := ps_setLc (X := X) (i := i) (y := y) (py := py) (spos := spos) (elt := elt) (tg := tg) (iter := iter) (ifs := ifs) (scope := scope) (pos := pos) (wi := tI W E (evI (W.cl k) it)) (g := gIT W.K t) (tt := tT W E0 (evC (W.cl k) c)) (te := tE W E0 (ev (W.cl k) a)) (own := own.map fun i => (Ns.getD i "", i)) hX.calm (by rw [hX.N]; exact hX.nd)
        (by rw [hX.N]; exact hi) (by rw [hX.sc]; exact hl) (sw_true (by rw [hX.sc]; exact hX.kd) (by rw [hX.sc]; exact hl) hline hno) (sndI hW L it h5 hX') (by rw [hX.N, hX.sc]; exact hblk)
        (fun s H C cl fp => by
          have z := pg_IT (hX'.tblk s H C cl fp) h4
          have ek : (X.blk s H scope (compEnvC scope cl C X.env) fp).K = W.K := hX.K
          rw [ek] at z
          exact z)
        (fun s H C cl fp => sndC hW L c h7 (hX'.blk s H C cl fp)) (fun s H C cl fp => (snd hW L a h8 (hX'.blk s H C cl fp)).pe) (foldSet_of (bnot h6))
      rw [e2] at q
      exact PS.weak q fun D σ H w => comp_E hown w
    · cases h
  | _ => unfold chkE at h; first | (cases h; done) | (simp at h; done)
mutual
/-- THE RULE for statements -/
theorem sndS (hW : WOk W cc) (L : Lv W k) : ∀ (a : IS) {scp : Scope} {E : XK} {X : Cx} {s : Stmt}, chkS cc Ns scp a s = true → SOk W Ns scp k E X → PS X s (tS W E (evS (W.cl k) W.F a))
  | .asg t e, scp, E, X, s, h, hX => by
    unfold chkS at h
    split at h
    · rename_i tg v pos
      obtain ⟨h1, h4⟩ := bex h
      obtain ⟨h1, h3⟩ := bex h1
      obtain ⟨h1, h2⟩ := bex h1
      have plain : isComp v = false → PS X (.Assign [tg] v pos) (tS W E (evS (W.cl k) W.F (.asg t e))) := fun hv => by
        have z := pg_IT hX.t h3
        rw [hX.K] at z
        have hl : ∀ es p, tg ≠ .List es p := fun es p q => by
          subst q
          unfold chkT at h3
          cases t <;> first | (cases h3; done) | (unfold tgB at h3; cases h3; done)
        have h1' : (assignEach [tg] X.env).map (·.2) = [assign tg X.env] := by
          cases tg <;> first | rfl | (cases t <;> (unfold chkT at h3; first | (cases h3; done) | (unfold tgB at h3; cases h3; done)))
        exact PS.weak (ps_asg (snd hW L e h4 hX.toXOk).pe z (sw_plain hv) (swap_none (bnot h1) hl) h1') fun D σ H w => asg_S w
      unfold setComp at h2
      split at h2
      · obtain ⟨k1, k3⟩ := bex h2
        obtain ⟨k1, k2⟩ := bex k1
        cases t with
        | name i =>
          unfold chkT tgB at h3
          obtain ⟨l1, l2⟩ := bex h3
          exact PS.weak (set_comp hW L hX h4 (of_decide_eq_true l1) (of_decide_eq_true k1) k2 (bnot k3)) fun D σ H w => asg_S w
        | tup is => cases h3
      · exact plain (bnot h2)
    · cases h
  | .setf a f e, scp, E, X, s, h, hX => by
    unfold chkS at h
    split at h
    · obtain ⟨h1, h4⟩ := bex h
      obtain ⟨h1, h3⟩ := bex h1
      obtain ⟨h1, h2⟩ := bex h1
      have := of_decide_eq_true h1; subst this
      refine PS.weak (ps_fld (snd hW L a h3 hX.toXOk).pe (snd hW L e h4 hX.toXOk).pe sw_attr) fun D σ H w => ?_
      rw [hX.K]
      exact setf_S hW (of_decide_eq_true h2) w
    · cases h
  | .seti a i e, scp, E, X, s, h, hX => by
    unfold chkS at h
    split at h
    · obtain ⟨h1, h4⟩ := bex h
      obtain ⟨h1, h3⟩ := bex h1
      obtain ⟨h1, h2⟩ := bex h1
      have hs := bnot h1
      exact PS.weak (ps_asg (snd hW L e h4 hX.toXOk).pe (pg_sub (snd hW L a h2 hX.toXOk).pe (snd hW L i h3 hX.toXOk).pe set_list (sub_store hs)) (by unfold swapsWithSole; exact sw_sub) (by rfl) (by rfl)) fun D σ H w => seti_S w
    · cases h
  | .expr e, scp, E, X, s, h, hX => by
    unfold chkS at h
    split at h
    · obtain ⟨h1, h2⟩ := bex h
      exact PS.weak (ps_expr (snd hW L e h2 hX.toXOk).pe (sw_plain (bnot h1))) fun D σ H w => expr_S w
    · cases h
  | .ret e, scp, E, X, s, h, hX => by
    unfold chkS at h
    split at h
    · exact PS.weak (ps_ret (snd hW L e h hX.toXOk).pe) fun D σ H w => ret_S w
    · cases h
  | .retN, scp, E, X, s, h, hX => by
    unfold chkS at h
    split at h
    · refine PS.weak ps_retN fun D σ H w => ?_
      obtain ⟨m, ρ, st, s, r, p⟩ := w
      rw [evS] at p
      exact p _ H m Ext.refl s (by rw [Rp])
    · cases h
  | .pass, scp, E, X, s, h, hX => by
    unfold chkS at h
    split at h
    · refine PS.weak ps_pass fun D σ H w => ?_
      obtain ⟨m, ρ, st, s, r, p⟩ := w
      rw [evS] at p
      exact p σ H m Ext.refl s r
    · cases h
  | .brk, scp, E, X, s, h, hX => by
    unfold chkS at h
    split at h
    · refine PS.weak ps_break fun D σ H w => ?_
      obtain ⟨m, ρ, st, s, r, p⟩ := w
      rw [evS] at p
      exact p σ H m Ext.refl s r
    · cases h
  | .cont, scp, E, X, s, h, hX => by
    unfold chkS at h
    split at h
    · refine PS.weak ps_continue fun D σ H w => ?_
      obtain ⟨m, ρ, st, s, r, p⟩ := w
      rw [evS] at p
      exact p σ H m Ext.refl s r
    · cases h
  | .ite c a b, scp, E, X, s, h, hX => by
    unfold chkS at h
    split at h
    · obtain ⟨h1, h3⟩ := bex h
      obtain ⟨h1, h2⟩ := bex h1
      exact PS.weak (ps_if (snd hW L c h1 hX.toXOk).pt (sndSs hW L a h2 hX) (sndSs hW L b h3 hX)) fun D σ H w => ite_S w
    · cases h
  | .whl c b, scp, E, X, s, h, hX => by
    unfold chkS at h
    split at h
    · obtain ⟨h1, h2⟩ := bex h
      exact PS.weak (ps_while hX.own (snd hW L c h1 hX.toXOk).pt (sndSs hW L b h2 hX)) fun D σ H w => whl_S w
    · cases h
  | .for_ t it b, scp, E, X, s, h, hX => by
    unfold chkS at h
    split at h
    · obtain ⟨h1, h4⟩ := bex h
      obtain ⟨h1, h3⟩ := bex h1
      obtain ⟨h1, h2⟩ := bex h1
      have z := pg_IT hX.t h1
      rw [hX.K] at z
      exact PS.weak (ps_for hX.own hX.calm (sndI hW L it h2 hX.toXOk) z (sndSs hW L b h4 hX) (foldSet_of (bnot h3))) fun D σ H w => for_S w
    · cases h
  | .never, scp, E, X, s, h, hX => by
    refine PS.weak ps_never fun D σ H w => ?_
    obtain ⟨m, ρ, st, s, r, p⟩ := w
    rw [evS] at p
    exact p
theorem sndSs (hW : WOk W cc) (L : Lv W k) : ∀ (a : ISs) {scp : Scope} {E : XK} {X : Cx} {s : List Stmt}, chkSs cc Ns scp a s = true → SOk W Ns scp k E X → PSs X s (tS W E (evSs (W.cl k) W.F a))
  | .nil, scp, E, X, s, h, hX => by
    unfold chkSs at h
    split at h
    · refine PSs.weak pss_nil fun D σ H w => ?_
      obtain ⟨m, ρ, st, s, r, p⟩ := w
      rw [evSs] at p
      exact p σ H m Ext.refl s r
    · cases h
  | .cons a r, scp, E, X, s, h, hX => by
    unfold chkSs at h
    split at h
    · obtain ⟨h1, h2⟩ := bex h
      refine PSs.weak (pss_cons (sndS hW L a h1 hX) (sndSs hW L r h2 hX)) fun D σ H w => ?_
      obtain ⟨m, ρ, st, s, rr, p⟩ := w
      rw [evSs] at p
      refine ⟨m, ρ, st, s, rr, ?_⟩
      have q := p.then
      -- what stands behind is the rest's reading
      cases hr : evS (W.cl k) W.F a ρ st with
      | ok f ρ1 st1 =>
        rw [hr] at q
        cases f with
        | nx =>
          intro σ' H' m' e' s' r'
          obtain ⟨m2, ρ2, st2, e2, s2, r2, p2⟩ := q σ' H' m' e' s' r'
          exact ⟨m2, ρ2, st2, s2, r2, p2⟩
        | bk => exact q
        | ct => exact q
        | rt d => exact q
      | exc x ρ1 st1 => rw [hr] at q; exact q
      | stuck => rw [hr] at q; exact q
    · cases h
end

/-! ### what a call forgets -/
mutual
theorem Rp.cl {K : PySem.W.Frag} {H : Hp} {m : List Addr} : ∀ {d : D} {v : V}, Rp K H m d v → clD m.length d = true
  | .non, v, h => rfl
  | .bl _, v, h => rfl
  | .int _, v, h => rfl
  | .str _, v, h => rfl
  | .tup ds, v, h => by
    obtain ⟨a, vs, _, _, h⟩ := h.tup_ref
    rw [clD]; exact Rps.cl h
  | .loc n, v, h => by
    rw [Rp] at h
    obtain ⟨a, h, _⟩ := h
    rw [clD]; exact decide_eq_true (List.getElem?_eq_some_iff.mp h).1
  | .fl ds, v, h => by
    rw [Rp] at h
    obtain ⟨a, vs, _, _, h⟩ := h
    rw [clD]; exact Rps.cl h
theorem Rps.cl {K : PySem.W.Frag} {H : Hp} {m : List Addr} : ∀ {d : List D} {v : List V}, Rps K H m d v → clDs m.length d = true
  | [], v, h => rfl
  | d :: ds, v, h => by
    rw [Rps] at h
    obtain ⟨u, us, _, h1, h2⟩ := h
    rw [clDs, Rp.cl h1, Rps.cl h2]; rfl
end
mutual
theorem Rp.down {K : PySem.W.Frag} {H : Hp} {m l : List Addr} : ∀ {d : D} {v : V}, clD m.length d = true → Rp K H (m ++ l) d v → Rp K H m d v
  | .non, v, _, h => by rw [Rp] at h ⊢; exact h
  | .bl _, v, _, h => by rw [Rp] at h ⊢; exact h
  | .int _, v, _, h => by rw [Rp] at h ⊢; exact h
  | .str _, v, _, h => by rw [Rp] at h ⊢; exact h
  | .tup ds, v, c, h => by
    rw [Rp] at h ⊢
    rw [clD] at c
    obtain ⟨a, vs, e, h1, h2⟩ := h
    exact ⟨a, vs, e, h1, Rps.down c h2⟩
  | .loc n, v, c, h => by
    rw [Rp] at h ⊢
    rw [clD, decide_eq_true_eq] at c
    obtain ⟨a, h1, e⟩ := h
    rw [List.getElem?_append_left c] at h1
    exact ⟨a, h1, e⟩
  | .fl ds, v, c, h => by
    rw [Rp] at h ⊢
    rw [clD] at c
    obtain ⟨a, vs, e, h1, h2⟩ := h
    exact ⟨a, vs, e, h1, Rps.down c h2⟩
theorem Rps.down {K : PySem.W.Frag} {H : Hp} {m l : List Addr} : ∀ {d : List D} {v : List V}, clDs m.length d = true → Rps K H (m ++ l) d v → Rps K H m d v
  | [], v, _, h => by rw [Rps] at h ⊢; exact h
  | d :: ds, v, c, h => by
    rw [clDs, Bool.and_eq_true] at c
    rw [Rps] at h ⊢
    obtain ⟨u, us, e, h1, h2⟩ := h
    exact ⟨u, us, e, Rp.down c.1 h1, Rps.down c.2 h2⟩
end
mutual
theorem clD_mono {n n' : Nat} (h : n ≤ n') : ∀ {d : D}, clD n d = true → clD n' d = true
  | .non, _ => rfl
  | .bl _, _ => rfl
  | .int _, _ => rfl
  | .str _, _ => rfl
  | .tup ds, c => by rw [clD] at c ⊢; exact clDs_mono h c
  | .loc k, c => by rw [clD, decide_eq_true_eq] at c ⊢; omega
  | .fl ds, c => by rw [clD] at c ⊢; exact clDs_mono h c
theorem clDs_mono {n n' : Nat} (h : n ≤ n') : ∀ {d : List D}, clDs n d = true → clDs n' d = true
  | [], _ => rfl
  | d :: ds, c => by
    rw [clDs, Bool.and_eq_true] at c ⊢
    exact ⟨clD_mono h c.1, clDs_mono h c.2⟩
end
theorem finish_ok {E : XK} {m : List Addr} {H : Hp} {st0 : Sto} {r : R D} {Q : VK} (s0 : Sim W H m st0) (h : Pg W E m H (finish st0 r) (kD W Q)) : Pg W E m H r (kD W Q) := by
  cases r with
  | exc e st => exact h
  | stuck => exact h
  | ok d st =>
    unfold finish at h
    dsimp only at h
    by_cases hc : clD 0 d = true ∧ ∀ i, i < st0.length → st[i]? = st0[i]? ∨ (st[i]?.map (clC st0.length)) = some true
    · rw [if_pos hc] at h
      obtain ⟨hd, hk⟩ := hc
      intro H' m' e s' v rv
      obtain ⟨l, rfl⟩ := e.pre
      have hle : st0.length ≤ st.length := by
        have h1 := s'.len
        rw [List.length_append, s0.len] at h1
        omega
      have e' : Ext m m H H' := ⟨⟨[], by simp⟩, fun a o ha hn => ⟨(e.keep a o ha hn).1, hn⟩⟩
      have dn : ∀ {ds : List D} {vs : List V}, clDs m.length ds = true → Rps W.K H' (m ++ l) ds vs → Rps W.K H' m ds vs := fun c r => Rps.down c r
      have sc : ∀ {c : Cell} {a : Addr}, clC m.length c = true → CellOk W H' (m ++ l) a c → CellOk W H' m a c := fun {c a} hc q => by
        cases c with
        | lst ds =>
          obtain ⟨vs, h1, h2⟩ := q
          exact ⟨vs, h1, dn hc h2⟩
        | ins c fs =>
          obtain ⟨dx, gs, h0, h1, h2, h3⟩ := q
          exact ⟨dx, gs, h0, h1, h2, dn hc h3⟩
      have cl0 : ∀ {c : Cell} {a : Addr}, CellOk W H m a c → clC m.length c = true := fun {c a} q => by
        cases c with
        | lst ds => obtain ⟨vs, _, h2⟩ := q; exact Rps.cl h2
        | ins c fs => obtain ⟨dx, gs, _, _, _, h3⟩ := q; exact Rps.cl h3
      have s2 : Sim W H' m (st.take st0.length) := by
        refine ⟨by rw [List.length_take, s0.len]; omega, s0.nd, fun i c a h1 h2 => ?_⟩
        have hi : i < st0.length := by
          have := (List.getElem?_eq_some_iff.mp h2).1
          rw [s0.len] at this; exact this
        rw [List.getElem?_take_of_lt hi] at h1
        have q := s'.ok i c a h1 (by rw [List.getElem?_append_left (by rw [s0.len]; exact hi)]; exact h2)
        refine sc ?_ q
        rcases hk i hi with z | z
        · rw [h1] at z
          exact cl0 (s0.ok i c a z.symm h2)
        · rw [h1] at z
          have z' : clC st0.length c = true := by simpa using z
          rw [s0.len]; exact z'
      exact h.go e' s2 v (Rp.down (clD_mono (Nat.zero_le _) hd) rv)
    · rw [if_neg hc] at h; exact h
/-! ### a def -/
/-- a def (or a method) that stands in the text -/
structure DefOk (W : Wd) (cc : CC) (i : Nat) (fi : FnIR) : Prop where
  ex : ∃ (x qual : Str) (st : Stmt) (Ns : List Str), Fun W.K x qual st (W.fa i) (W.fd i) ∧ FnScope Ns (W.ps i) (defScope st) ∧ chkSs cc Ns (defScope st) fi.body (defBody st) = true ∧ Ns.length = fi.nl ∧ (W.ps i).length = fi.np ∧ fi.np ≤ fi.nl
theorem lv_succ (hW : WOk W cc) (hd : ∀ (i : Nat) (fi : FnIR), W.pr.fns[i]? = some fi → DefOk W cc i fi) (L : Lv W k) : Lv W (k + 1) := by
  intro i fi hi
  obtain ⟨x, qual, st, Ns, F, S, hc, hl, hp, hle⟩ := (hd i fi hi).ex
  refine Fun.okX (k := 2 * k + 1) F S (fun vs H Q E h => ?_) (fun cdv A outer s H vs Q E hr h => ?_)
  · obtain ⟨m, st, ds, _, _, h, _⟩ := h
    exact h
  obtain ⟨m, sto, ds, sm, rs, hlen, p⟩ := h
  have hX : SOk W Ns (defScope st) k E (cxOf (L2.CX W.P W.w) W.P W.w W.K W.mg W.base Ns qual (defScope st) (W.fa i) cdv A outer s H E) :=
    ⟨⟨rfl, rfl, rfl, rfl, rfl, rfl, S.nd, rfl, rfl, hr, passes_call (takes_of rfl rfl rfl rfl) fun _ _ _ _ h => h⟩, rfl, S.kind, passes_of rfl⟩
  refine ⟨_, sndSs hW L fi.body hc hX, ?_⟩
  have p' : Pg W E m H (finish sto (runB (evSs (W.cl k) W.F fi.body (ds.map some ++ List.replicate (fi.nl - fi.np) none) sto))) (kD W Q) := by
    have p : Pg W E m H (W.pr.step W.F (W.cl k) i ds sto) (kD W Q) := p
    unfold Prog.step at p
    rw [hi] at p
    exact p.ite.2
  have q := finish_ok sm p'
  have hdl : ds.length = fi.np := by rw [← rs.len, hlen, hp]
  refine ⟨m, ds.map some ++ List.replicate (fi.nl - fi.np) none, sto, sm, ⟨?_, fun j d hj => ?_⟩, ?_⟩
  · have e1 := rs.len
    unfold L2.start
    simp only [List.length_append, List.length_map, List.length_replicate]
    omega
  · unfold L2.start
    by_cases hjl : j < ds.length
    · rw [List.getElem?_append_left (by simpa using hjl), List.getElem?_map] at hj
      cases hq : ds[j]? with
      | none => rw [hq] at hj; cases hj
      | some d' =>
        rw [hq] at hj
        cases hj
        obtain ⟨v, hv, rv⟩ := rs.get hq
        have hjv : j < vs.length := (List.getElem?_eq_some_iff.mp hv).1
        refine ⟨v, ?_, rv⟩
        rw [List.getElem?_append_left (by simpa using hjv), List.getElem?_map, hv]
        rfl
    · rw [List.getElem?_append_right (by simpa using Nat.le_of_not_lt hjl)] at hj
      rw [List.getElem?_replicate] at hj
      split at hj
      · cases hj
      · cases hj
  · generalize evSs (W.cl k) W.F fi.body (ds.map some ++ List.replicate (fi.nl - fi.np) none) sto = r at q
    cases r with
    | ok f ρ st1 => cases f with
      | nx => exact fun σ' H' m' e' s' _ => q H' m' e' s' _ (by rw [Rp])
      | bk => exact q.elim
      | ct => exact q.elim
      | rt d => exact fun v H' m' e' s' rv => q H' m' e' s' v rv
    | exc x ρ st1 => exact q
    | stuck => exact q.elim
/-- all levels -/
theorem lv_all (hW : WOk W cc) (hd : ∀ (i : Nat) (fi : FnIR), W.pr.fns[i]? = some fi → DefOk W cc i fi) : ∀ k, Lv W k
  | 0 => fun i fi hi => by
    have no : ∀ vs H Q E, ¬ spE W (W.pr.call W.F 0) i vs H Q E := fun vs H Q E h => by
      obtain ⟨_, _, _, _, _, _, p⟩ := h
      exact p
    exact ⟨fun vs H Q E h => absurd h (no vs H Q E), fun A outer s H args us vs Q E _ _ _ _ h => absurd h (no vs H Q E)⟩
  | k + 1 => lv_succ hW hd (lv_all hW hd k)
/-- THE LAW: it promises True, if its evaluation says so -/
def spLaw (K : PySem.W.Frag) : Sp := fun vs H Q _ => ∃ (a : Addr) (ns : List Int), vs = [.ref a] ∧ Only H ∧ SqL K H a (ns.map V.int) ∧ ns.length ≤ 63 ∧ ∀ H', Q (.bl true) H'
theorem ints_Rps {K : PySem.W.Frag} {H : Hp} {m : List Addr} : ∀ ns : List Int, Rps K H m (ns.map D.int) (ns.map V.int)
  | [] => by simp [Rps]
  | n :: ns => by
    simp only [List.map_cons]; rw [Rps]
    exact ⟨_, _, rfl, by rw [Rp], ints_Rps ns⟩
theorem law_ok {i : Nat} {fi : FnIR} (L : Lv W k) (hi : W.pr.fns[i]? = some fi) (hp : (W.ps i).length = 1) (h : ∀ ns : List Int, ns.length ≤ 63 → ∃ st, W.pr.call W.F k i [.fl (ns.map D.int)] [] = .ok (.bl true) st) :
    FnOk W.P W.w W.K W.mg W.base (L2.CX W.P W.w) (2 * k) (W.fa i) (W.fd i) (W.ps i) (spLaw W.K) := by
  refine (L i fi hi).imp fun vs H Q E hs => ?_
  obtain ⟨a, ns, rfl, ho, hq, hl, q⟩ := hs
  obtain ⟨st, hst⟩ := h ns hl
  refine ⟨[], [], [.fl (ns.map D.int)], ⟨rfl, List.nodup_nil, fun i c a h => by simp at h⟩, ?_, by rw [hp]; rfl, ?_⟩
  · rw [Rps]
    refine ⟨.ref a, [], rfl, ?_, by rw [Rps]⟩
    rw [Rp]
    refine ⟨a, _, rfl, ?_, ints_Rps ns⟩
    rcases hq with (hq | ⟨o, hq⟩) | hq
    · rcases ho a with z | ⟨o, xs, z⟩
      · rw [hq] at z; cases z
      · rw [hq] at z; cases z
    · exact .inl ⟨o, hq⟩
    · exact .inr hq
  · rw [hst]
    intro H' m' _ _ v rv
    rw [Rp] at rv; subst rv
    exact q H'
end
end Z
/-! Z: evaluation by simp: rows common to all laws -/
namespace Z
@[simp] theorem R_bind_ok {α β : Type} (a : α) (st : Sto) (f : α → Sto → R β) : (R.ok a st).bind f = f a st := rfl
@[simp] theorem R_bind_stuck {α β : Type} (f : α → Sto → R β) : (R.stuck : R α).bind f = .stuck := rfl
@[simp] theorem R_sbind_ok {α : Type} (ρ : Env) (a : α) (st : Sto) (f : α → Sto → SR) : (R.ok a st).sbind ρ f = f a st := rfl
@[simp] theorem R_noex_ok {α : Type} (a : α) (st : Sto) : (R.ok a st).noex = .ok a st := rfl
@[simp] theorem bOf_bl (st : Sto) (b : Bool) : bOf st (.bl b) = .ok b st := rfl
@[simp] theorem iOf_int (st : Sto) (b : Int) : iOf st (.int b) = .ok b st := rfl
@[simp] theorem ofO_some {α : Type} (st : Sto) (a : α) : ofO st (some a) = .ok a st := rfl
@[simp] theorem SR_then_nx (ρ : Env) (st : Sto) (f : Env → Sto → SR) : (SR.ok .nx ρ st).then f = f ρ st := rfl
@[simp] theorem SR_then_rt (d : D) (ρ : Env) (st : Sto) (f : Env → Sto → SR) : (SR.ok (.rt d) ρ st).then f = .ok (.rt d) ρ st := rfl
@[simp] theorem SR_turn_nx (ρ : Env) (st : Sto) (f : Env → Sto → SR) : (SR.ok .nx ρ st).turn f = f ρ st := rfl
@[simp] theorem SR_turn_rt (d : D) (ρ : Env) (st : Sto) (f : Env → Sto → SR) : (SR.ok (.rt d) ρ st).turn f = .ok (.rt d) ρ st := rfl
@[simp] theorem runB_nx (ρ : Env) (st : Sto) : runB (.ok .nx ρ st) = .ok .non st := rfl
@[simp] theorem runB_rt (d : D) (ρ : Env) (st : Sto) : runB (.ok (.rt d) ρ st) = .ok d st := rfl
@[simp] theorem cl_call (pr : Prog) (F k : Nat) : (pr.cl F k).call = pr.call F k := rfl
@[simp] theorem cl_ini (pr : Prog) (F k : Nat) : (pr.cl F k).ini = pr.ini := rfl
@[simp] theorem cl_meth (pr : Prog) (F k : Nat) : (pr.cl F k).meth = pr.meth := rfl
theorem call_eq (pr : Prog) (F k : Nat) {f : Nat} {ds : List D} {st : Sto} {fi : FnIR} (h : pr.fns[f]? = some fi) (hn : ds.length = fi.np) :
    pr.call F (k + 1) f ds st = finish st (runB (evSs (pr.cl F k) F fi.body (ds.map some ++ List.replicate (fi.nl - fi.np) none) st)) := by
  show Prog.step pr F _ f ds st = _
  unfold Prog.step
  rw [h]
  simp only
  rw [if_pos hn]
  rfl
@[simp] theorem finish_same (st : Sto) (d : D) : finish st (.ok d st) = .ok d st := by
  unfold finish
  simp only
  split <;> simp
/-- a call that made new things alone, and hands back data -/
theorem finish_new (st x : Sto) (d : D) (h : clD 0 d = true) : finish st (.ok d (st ++ x)) = .ok d st := by
  unfold finish
  simp only
  rw [if_pos ⟨h, fun i hi => .inl (List.getElem?_append_left hi)⟩, List.take_left' rfl]
/-- what stays from st to st', but at the places S -/
structure Keep (S : List Nat) (st st' : Sto) : Prop where
  le : st.length ≤ st'.length
  at_ : ∀ i, i < st.length → i ∉ S → st'[i]? = st[i]?
theorem Keep.refl (S : List Nat) (st : Sto) : Keep S st st := ⟨Nat.le_refl _, fun _ _ _ => rfl⟩
theorem Keep.trans {S : List Nat} {a b c : Sto} (h : Keep S a b) (g : Keep S b c) : Keep S a c := ⟨Nat.le_trans h.le g.le, fun i hi hn => (g.at_ i (Nat.lt_of_lt_of_le hi h.le) hn).trans (h.at_ i hi hn)⟩
theorem Keep.mono {S T : List Nat} {a b : Sto} (h : Keep S a b) (s : ∀ i ∈ S, i ∈ T) : Keep T a b := ⟨h.le, fun i hi hn => h.at_ i hi fun z => hn (s i z)⟩
theorem Keep.app (S : List Nat) (st x : Sto) : Keep S st (st ++ x) := ⟨by simp, fun i hi _ => List.getElem?_append_left hi⟩
theorem Keep.set {S : List Nat} {st : Sto} {n : Nat} {c : Cell} (h : n ∈ S) : Keep S st (st.set n c) := ⟨by simp, fun i hi hn => List.getElem?_set_ne fun e => hn (by rw [← e]; exact h)⟩
theorem Keep.get {S : List Nat} {st st' : Sto} (h : Keep S st st') {i : Nat} {c : Cell} (e : st[i]? = some c) (hn : i ∉ S) : st'[i]? = some c := by
  rw [h.at_ i (List.getElem?_eq_some_iff.mp e).1 hn]; exact e
theorem lt_of_at {st : Sto} {i : Nat} {c : Cell} (e : st[i]? = some c) : i < st.length := (List.getElem?_eq_some_iff.mp e).1
theorem app_at {st : Sto} {i : Nat} {c : Cell} (x : Sto) (e : st[i]? = some c) : (st ++ x)[i]? = some c := by
  rw [List.getElem?_append_left (lt_of_at e)]; exact e
theorem set_at {st : Sto} {i n : Nat} {c c' : Cell} (e : st[i]? = some c) (h : n ≠ i) : (st.set n c')[i]? = some c := by
  rw [List.getElem?_set_ne h]; exact e
theorem set_here {st : Sto} {i : Nat} {c c' : Cell} (e : st[i]? = some c) : (st.set i c')[i]? = some c' := List.getElem?_set_self (lt_of_at e)
/-- the end of a call that changed the places S -/
theorem finish_keep {st st1 : Sto} {d : D} {S : List Nat} (h : clD 0 d = true) (k : Keep S st st1) (hc : ∀ i ∈ S, ∃ c, st1[i]? = some c ∧ clC st.length c = true) :
    ∃ st', finish st (.ok d st1) = .ok d st' ∧ Keep S st st' ∧ st'.length = st.length ∧ ∀ i, i < st.length → st'[i]? = st1[i]? := by
  refine ⟨st1.take st.length, ?_, ⟨by rw [List.length_take]; have := k.le; omega, fun i hi hn => ?_⟩, by rw [List.length_take]; have := k.le; omega, fun i hi => ?_⟩
  · have hh : clD 0 d = true ∧ ∀ i, i < st.length → st1[i]? = st[i]? ∨ (st1[i]?.map (clC st.length)) = some true := ⟨h, fun i hi => by
      by_cases hs : i ∈ S
      · obtain ⟨c, e, q⟩ := hc i hs
        exact .inr (by rw [e]; simp [q])
      · exact .inl (k.at_ i hi hs)⟩
    unfold finish
    simp only
    rw [if_pos hh]
  · rw [List.getElem?_take_of_lt hi]; exact k.at_ i hi hn
  · exact List.getElem?_take_of_lt hi
theorem Keep.setN {S : List Nat} {st st1 : Sto} {n : Nat} {c : Cell} (k : Keep S st st1) (h : st.length ≤ n) : Keep S st (st1.set n c) := ⟨by simp [k.le], fun i hi hn => by rw [List.getElem?_set_ne (by omega)]; exact k.at_ i hi hn⟩
theorem Keep.appN {S : List Nat} {st st1 : Sto} (k : Keep S st st1) (x : Sto) : Keep S st (st1 ++ x) := k.trans (Keep.app S st1 x)
/-- a call that changed nothing that stood -/
theorem finish_pure {st st1 : Sto} {d : D} (h : clD 0 d = true) (k : Keep [] st st1) : finish st (.ok d st1) = .ok d st := by
  obtain ⟨st', e, k', l, at_⟩ := finish_keep (S := []) h k (fun i hi => by simp at hi)
  rw [e]
  congr 1
  refine List.ext_getElem? fun i => ?_
  by_cases hi : i < st.length
  · exact k'.at_ i hi (by simp)
  · rw [List.getElem?_eq_none (by omega), List.getElem?_eq_none (by omega)]
@[simp] theorem clDs_ints (n : Nat) : ∀ ns : List Int, clDs n (ns.map D.int) = true
  | [] => rfl
  | x :: xs => by rw [List.map_cons, clDs, clDs_ints n xs]; rfl
end Z
namespace Z
/-! ### evaluation, rule by rule -/
section
variable {C : Cl} {ρ : Env} {st s1 s2 s3 : Sto} {a b c i : IE} {es r : IEs} {d x y : D} {ds xs : List D} {k j : Bool}
theorem e_var {n : Nat} (h : ρ[n]? = some (some d)) : ev C (.var n) ρ st = .ok d st := by rw [ev, h]
theorem e_cst : ev C (.cst d) ρ st = .ok d st := by rw [ev]
theorem e_gl : ev C (.gl d) ρ st = .ok d st := by rw [ev]
theorem e_tup (h : evs C es ρ st = .ok ds s1) (hl : ds.length ≤ 1000) : ev C (.tup es) ρ st = .ok (.tup ds) s1 := by
  rw [ev, h, R_bind_ok, if_pos (Nat.le_trans hl (by decide))]
theorem e_lst (h : evs C es ρ st = .ok ds s1) (hl : ds.length ≤ 1000) : ev C (.lst es) ρ st = .ok (.loc s1.length) (s1 ++ [.lst ds]) := by
  rw [ev, h, R_bind_ok, if_pos (Nat.le_trans hl (by decide))]
theorem e_bin {o : BOp} (h1 : ev C a ρ st = .ok x s1) (h2 : ev C b ρ s1 = .ok y s2) (h3 : binD o x y s2 = .ok d s3) : ev C (.bin o a b) ρ st = .ok d s3 := by
  rw [ev, h1, R_bind_ok, h2, R_bind_ok, h3]
theorem e_cmp {o : COp} (h1 : ev C a ρ st = .ok x s1) (h2 : ev C b ρ s1 = .ok y s2) (h3 : cmpD o x y s2 = .ok d s3) : ev C (.cmp o a b) ρ st = .ok d s3 := by
  rw [ev, h1, R_bind_ok, h2, R_bind_ok, h3]
theorem e_and (h1 : ev C a ρ st = .ok (.bl k) s1) (h2 : k = true → ev C b ρ s1 = .ok (.bl j) s1) : ev C (.and a b) ρ st = .ok (.bl (k && j)) s1 := by
  rw [ev, h1, R_bind_ok, bOf_bl, R_bind_ok]
  cases k with
  | true => rw [if_pos rfl, h2 rfl]; rfl
  | false => rfl
theorem e_or (h1 : ev C a ρ st = .ok (.bl k) s1) (h2 : k = false → ev C b ρ s1 = .ok (.bl j) s1) : ev C (.or a b) ρ st = .ok (.bl (k || j)) s1 := by
  rw [ev, h1, R_bind_ok, bOf_bl, R_bind_ok]
  cases k with
  | false => rw [if_neg Bool.false_ne_true, h2 rfl]; rfl
  | true => rfl
theorem e_andF (h1 : ev C a ρ st = .ok (.bl false) s1) : ev C (.and a b) ρ st = .ok (.bl false) s1 := by
  rw [ev, h1, R_bind_ok, bOf_bl, R_bind_ok]; rfl
theorem e_andT (h1 : ev C a ρ st = .ok (.bl true) s1) (h2 : ev C b ρ s1 = .ok (.bl j) s2) : ev C (.and a b) ρ st = .ok (.bl j) s2 := by
  rw [ev, h1, R_bind_ok, bOf_bl, R_bind_ok, if_pos rfl, h2]; rfl
theorem e_orT (h1 : ev C a ρ st = .ok (.bl true) s1) : ev C (.or a b) ρ st = .ok (.bl true) s1 := by
  rw [ev, h1, R_bind_ok, bOf_bl, R_bind_ok]; rfl
theorem e_orF (h1 : ev C a ρ st = .ok (.bl false) s1) (h2 : ev C b ρ s1 = .ok (.bl j) s2) : ev C (.or a b) ρ st = .ok (.bl j) s2 := by
  rw [ev, h1, R_bind_ok, bOf_bl, R_bind_ok, if_neg Bool.false_ne_true, h2]; rfl
theorem e_not (h1 : ev C a ρ st = .ok (.bl k) s1) : ev C (.not a) ρ st = .ok (.bl (!k)) s1 := by
  rw [ev, h1, R_bind_ok, bOf_bl, R_bind_ok]
theorem e_iteT (h1 : ev C c ρ st = .ok (.bl true) s1) (h2 : ev C a ρ s1 = .ok d s2) : ev C (.ite c a b) ρ st = .ok d s2 := by
  rw [ev, h1, R_bind_ok, bOf_bl, R_bind_ok, if_pos rfl, h2]
theorem e_iteF (h1 : ev C c ρ st = .ok (.bl false) s1) (h2 : ev C b ρ s1 = .ok d s2) : ev C (.ite c a b) ρ st = .ok d s2 := by
  rw [ev, h1, R_bind_ok, bOf_bl, R_bind_ok, if_neg Bool.false_ne_true, h2]
theorem e_ix (h1 : ev C a ρ st = .ok x s1) (h2 : ev C i ρ s1 = .ok y s2) (h3 : ixD x y s2 = .ok d s3) : ev C (.ix a i) ρ st = .ok d s3 := by
  rw [ev, h1, R_bind_ok, h2, R_bind_ok, h3]
theorem e_sl {lo hi : IO} {l h : Option Int} {s4 : Sto} (h1 : ev C a ρ st = .ok x s1) (h2 : evO C lo ρ s1 = .ok l s2) (h3 : evO C hi ρ s2 = .ok h s3) (h4 : slD x l h s3 = .ok d s4) : ev C (.sl a lo hi) ρ st = .ok d s4 := by
  rw [ev, h1, R_bind_ok, h2, R_bind_ok, h3, R_bind_ok, h4]
theorem e_on : evO C .none ρ st = .ok none st := by rw [evO]
theorem e_os {n : Int} (h1 : ev C a ρ st = .ok (.int n) s1) : evO C (.some a) ρ st = .ok (some n) s1 := by rw [evO, h1, R_bind_ok, iOf_int]; rfl
theorem e_rev (h1 : ev C a ρ st = .ok x s1) (h3 : revD x s1 = .ok d s3) : ev C (.rev a) ρ st = .ok d s3 := by rw [ev, h1, R_bind_ok, h3]
theorem e_fld {f : PySem.Str} (h1 : ev C a ρ st = .ok x s1) (h3 : fldD x f s1 = .ok d s3) : ev C (.fld a f) ρ st = .ok d s3 := by rw [ev, h1, R_bind_ok, h3]
theorem e_isi {kd : Kd} (h1 : ev C a ρ st = .ok x s1) (h3 : isiD x kd s1 = .ok d s3) : ev C (.isi a kd) ρ st = .ok d s3 := by rw [ev, h1, R_bind_ok, h3]
theorem e_bi {o : Bi} (h1 : ev C a ρ st = .ok x s1) (h3 : biD o x s1 = .ok d s3) : ev C (.bi o a) ρ st = .ok d s3 := by rw [ev, h1, R_bind_ok, h3]
theorem e_call {f : Nat} (h1 : evs C es ρ st = .ok ds s1) (h2 : C.call f ds s1 = .ok d s2) : ev C (.call f es) ρ st = .ok d s2 := by rw [ev, h1, R_bind_ok, h2]
theorem e_mk {cn f : Nat} (h1 : evs C es ρ st = .ok ds s1) (hf : C.ini cn = some f) (h2 : C.call f (.loc s1.length :: ds) (s1 ++ [.ins cn []]) = .ok .non s2) : ev C (.mk cn es) ρ st = .ok (.loc s1.length) s2 := by
  rw [ev, h1, R_bind_ok, hf]
  show R.bind (C.call f (.loc s1.length :: ds) (s1 ++ [.ins cn []])) _ = _
  rw [h2]; rfl
theorem e_me0 {me : Me} (h1 : ev C a ρ st = .ok x s1) (h2 : recvOk me s1 x = true) (h3 : me0D me x s1 = .ok d s2) : ev C (.me0 me a) ρ st = .ok d s2 := by rw [ev, h1, R_bind_ok, if_pos h2, h3]
theorem e_me1 {me : Me} (h1 : ev C a ρ st = .ok x s1) (h2 : recvOk me s1 x = true) (h3 : ev C b ρ s1 = .ok y s2) (h4 : me1D me x y s2 = .ok d s3) : ev C (.me1 me a b) ρ st = .ok d s3 := by
  rw [ev, h1, R_bind_ok, if_pos h2, h3, R_bind_ok, h4]
theorem e_om {nm : PySem.Str} {mi n cn f : Nat} {fs : List (PySem.Str × D)} (h1 : ev C a ρ st = .ok (.loc n) s1) (h2 : s1[n]? = some (.ins cn fs)) (hf : C.meth cn mi = some f) (hn : fs.lookup nm = none) (h3 : evs C es ρ s1 = .ok ds s2) (h4 : C.call f (.loc n :: ds) s2 = .ok d s3) :
    ev C (.om nm mi a es) ρ st = .ok d s3 := by
  rw [ev, h1, R_bind_ok]
  simp only [h2, hf, hn]
  rw [h3, R_bind_ok, h4]
theorem e_nil : evs C .nil ρ st = .ok [] st := by rw [evs]
theorem e_cons (h1 : ev C a ρ st = .ok x s1) (h2 : evs C r ρ s1 = .ok xs s2) : evs C (.cons a r) ρ st = .ok (x :: xs) s2 := by rw [evs, h1, R_bind_ok, h2]; rfl
theorem e_it {w : Wk} (h1 : ev C a ρ st = .ok x s1) (h2 : wkD x s1 = .ok w s2) : evI C (.it a) ρ st = .ok w s2 := by rw [evI, h1, R_bind_ok, h2]
theorem e_rng1 {n : Int} (h1 : ev C a ρ st = .ok (.int n) s1) (h : iLim n) : evI C (.rng1 a) ρ st = .ok (rngW 0 n.toNat) s1 := by rw [evI, h1, R_bind_ok, iOf_int, R_bind_ok, if_pos h]
theorem e_comp {e : IE} {t : IT} {own : List Nat} {it : II} {co : IO} {w : Wk} {ys : List D} (h1 : evI C it ρ st = .ok w s1)
    (h2 : compL w (turnC C t own co e ρ) w.xs s1 = .ok ys s2) (h3 : ys.length ≤ LIM) : ev C (.comp e t own it co) ρ st = .ok (.loc s2.length) (s2 ++ [.lst ys]) := by
  have q : ev C (.comp e t own it co) ρ st = (evI C it ρ st).bind fun w st => ((compL w (turnC C t own co e ρ) w.xs st).noex).bind fun ys st => if ys.length ≤ LIM then .ok (.loc st.length) (st ++ [.lst ys]) else .stuck := by
    rw [ev]; rfl
  rw [q, h1, R_bind_ok, h2, R_noex_ok, R_bind_ok, if_pos h3]
theorem t_one {e : IE} {t : IT} {own : List Nat} {ρ1 : Env} (h1 : asgT (wipeE ρ own) t x = some ρ1) (h2 : ev C e ρ1 st = .ok y s1) : turnC C t own .none e ρ x st = .ok (some y) s1 := by
  unfold turnC
  simp only [h1]
  rw [evC, R_bind_ok, if_pos rfl, h2]; rfl
/-- a comprehension over a fixed thing, the store staying -/
theorem compL_map {α : Type} {f : D → Sto → R (Option D)} {u v : α → D} {w : Wk} (hw : w.l = none) : ∀ (l : List α), (∀ a ∈ l, f (u a) st = .ok (some (v a)) st) → compL w f (l.map u) st = .ok (l.map v) st
  | [], _ => by rw [List.map_nil]; unfold compL; rw [if_pos (by unfold Wk.stays; rw [hw])]; rfl
  | a :: l, h => by
    rw [List.map_cons]
    unfold compL
    rw [if_pos (by unfold Wk.stays; rw [hw]), h a List.mem_cons_self, R_bind_ok, compL_map hw l fun y hy => h y (List.mem_cons_of_mem _ hy)]
    rfl
variable {F : Nat} {s : IS} {rs ss : ISs} {ρ1 : Env} {res : SR}
theorem b_nil : evSs C F .nil ρ st = .ok .nx ρ st := by rw [evSs]
theorem b_cons (h1 : evS C F s ρ st = .ok .nx ρ1 s1) (h2 : evSs C F ss ρ1 s1 = res) : evSs C F (.cons s ss) ρ st = res := by rw [evSs, h1, SR_then_nx, h2]
theorem b_rt {d : D} (h1 : evS C F s ρ st = .ok (.rt d) ρ1 s1) : evSs C F (.cons s ss) ρ st = .ok (.rt d) ρ1 s1 := by rw [evSs, h1]; rfl
theorem s_asg {t : IT} (h1 : ev C a ρ st = .ok x s1) (h2 : asgT ρ t x = some ρ1) : evS C F (.asg t a) ρ st = .ok .nx ρ1 s1 := by rw [evS, h1, R_sbind_ok]; simp only [h2]
theorem s_expr (h1 : ev C a ρ st = .ok x s1) : evS C F (.expr a) ρ st = .ok .nx ρ s1 := by rw [evS, h1]; rfl
theorem s_ret (h1 : ev C a ρ st = .ok x s1) : evS C F (.ret a) ρ st = .ok (.rt x) ρ s1 := by rw [evS, h1]; rfl
theorem s_setf {f : PySem.Str} {n cn : Nat} {fs : List (PySem.Str × D)} (h1 : ev C b ρ st = .ok y s1) (h2 : ev C a ρ s1 = .ok (.loc n) s2) (h3 : s2[n]? = some (.ins cn fs)) (h4 : fs.length < 1000) : evS C F (.setf a f b) ρ st = .ok .nx ρ (s2.set n (.ins cn (putF' f y fs))) := by
  rw [evS, h1, R_sbind_ok, h2, R_sbind_ok]
  simp only [h3]
  rw [if_pos h4]
theorem s_seti {n j : Nat} {z : Int} (h1 : ev C b ρ st = .ok y s1) (h2 : ev C a ρ s1 = .ok (.loc n) s2) (h3 : ev C i ρ s2 = .ok (.int z) s3) (h4 : s3[n]? = some (.lst xs)) (h5 : L2.ixN xs.length z = some j) : evS C F (.seti a i b) ρ st = .ok .nx ρ (s3.set n (.lst (xs.set j y))) := by
  rw [evS, h1, R_sbind_ok, h2, R_sbind_ok, h3, R_sbind_ok]
  simp only [h4, h5]
theorem s_iteT (h1 : ev C c ρ st = .ok (.bl true) s1) (h2 : evSs C F ss ρ s1 = res) : evS C F (.ite c ss rs) ρ st = res := by rw [evS, evT, h1, R_bind_ok, bOf_bl, R_sbind_ok, if_pos rfl, h2]
theorem s_iteF (h1 : ev C c ρ st = .ok (.bl false) s1) (h2 : evSs C F rs ρ s1 = res) : evS C F (.ite c ss rs) ρ st = res := by rw [evS, evT, h1, R_bind_ok, bOf_bl, R_sbind_ok, if_neg Bool.false_ne_true, h2]
theorem s_ifT (h1 : ev C c ρ st = .ok (.bl k) s1) (hk : k = true) (h2 : evSs C F ss ρ s1 = res) : evS C F (.ite c ss rs) ρ st = res := by subst hk; exact s_iteT h1 h2
theorem s_ifF (h1 : ev C c ρ st = .ok (.bl k) s1) (hk : k = false) (h2 : evSs C F rs ρ s1 = res) : evS C F (.ite c ss rs) ρ st = res := by subst hk; exact s_iteF h1 h2
theorem s_for {t : IT} {it : II} {w : Wk} (h1 : evI C it ρ st = .ok w s1) (h2 : loopF w t (evSs C F ss) w.xs ρ s1 = res) : evS C F (.for_ t it ss) ρ st = res := by rw [evS, h1, R_sbind_ok, h2]
/-- what a def hands back -/
theorem c_rt {pr : Prog} {k f : Nat} {fi : FnIR} (h : pr.fns[f]? = some fi) (hn : ds.length = fi.np) {ρ1 : Env} (e : evSs (pr.cl F k) F fi.body (ds.map some ++ List.replicate (fi.nl - fi.np) none) st = .ok (.rt d) ρ1 s1) : pr.call F (k + 1) f ds st = finish st (.ok d s1) := by
  rw [call_eq pr F k h hn, e, runB_rt]
theorem c_nx {pr : Prog} {k f : Nat} {fi : FnIR} (h : pr.fns[f]? = some fi) (hn : ds.length = fi.np) {ρ1 : Env} (e : evSs (pr.cl F k) F fi.body (ds.map some ++ List.replicate (fi.nl - fi.np) none) st = .ok .nx ρ1 s1) : pr.call F (k + 1) f ds st = finish st (.ok .non s1) := by
  rw [call_eq pr F k h hn, e, runB_nx]
/-! ### the operations -/
variable {n m : Nat} {z w : Int} {t u : Tx}
theorem d_mul (h : (-(2 ^ 64) < z ∧ z < 2 ^ 64) ∨ (-(2 ^ 64) < w ∧ w < 2 ^ 64)) : binD .mul (.int z) (.int w) st = .ok (.int (z * w)) st := by unfold binD; simp only; rw [if_pos h]
theorem d_fdiv (h : 0 < w ∧ w < 1073741824) : binD .fdiv (.int z) (.int w) st = .ok (.int (z / w)) st := by unfold binD; simp only; rw [if_pos h]
theorem d_mod (h : 0 < w) : binD .mod (.int z) (.int w) st = .ok (.int (z % w)) st := by unfold binD; simp only; rw [if_pos h]
theorem d_addS (h : t.length + u.length ≤ LIM) : binD .add (.str t) (.str u) st = .ok (.str (t ++ u)) st := by unfold binD; simp only; rw [if_pos h]
theorem d_addT {ts us : List D} (h : ts.length + us.length ≤ LIM) : binD .add (.tup ts) (.tup us) st = .ok (.tup (ts ++ us)) st := by unfold binD; simp only; rw [if_pos h]
theorem d_eq {b : Bool} (h : eqD st x y = some b) : cmpD .eq x y st = .ok (.bl b) st := by unfold cmpD; simp only; rw [h]; rfl
theorem d_ne {b : Bool} (h : eqD st x y = some b) : cmpD .ne x y st = .ok (.bl (!b)) st := by unfold cmpD; simp only; rw [h]; rfl
theorem d_eqL (h1 : st[n]? = some (.lst xs)) (h2 : st[m]? = some (.lst [])) : eqD st (.loc n) (.loc m) = some xs.isEmpty := by unfold eqD; simp only [h1, h2]
theorem d_ixL (h1 : st[n]? = some (.lst xs)) (h2 : L2.atI xs z = some d) : ixD (.loc n) (.int z) st = .ok d st := by
  unfold ixD seqD; simp only [h1]; rw [ofO_some, R_bind_ok, h2]; rfl
theorem d_ixT (h2 : L2.atI xs z = some d) : ixD (.tup xs) (.int z) st = .ok d st := by
  unfold ixD seqD; simp only; rw [ofO_some, R_bind_ok, h2]; rfl
theorem d_ixS {cd : Nat} (h : t.length ≤ LIM) (h2 : L2.atI t z = some cd) : ixD (.str t) (.int z) st = .ok (.str [cd]) st := by
  unfold ixD; simp only; rw [if_pos h, h2]; rfl
theorem d_lenL (h1 : st[n]? = some (.lst xs)) : biD .len (.loc n) st = .ok (.int xs.length) st := by unfold biD seqD; simp only [h1]; rfl
theorem d_lenS (h : t.length ≤ LIM) : biD .len (.str t) st = .ok (.int t.length) st := by unfold biD; simp only; rw [if_pos h]
theorem d_tupL (h1 : st[n]? = some (.lst xs)) : biD .tuple (.loc n) st = .ok (.tup xs) st := by unfold biD seqD; simp only [h1]; rfl
theorem d_listL (h1 : st[n]? = some (.lst xs)) : biD .list (.loc n) st = .ok (.loc st.length) (st ++ [.lst xs]) := by unfold biD seqD; simp only [h1]; rfl
theorem d_revL (h1 : st[n]? = some (.lst xs)) : revD (.loc n) st = .ok (.loc st.length) (st ++ [.lst xs.reverse]) := by unfold revD lstD; simp only [h1]; rfl
theorem d_isiL {kd : Kd} (h1 : st[n]? = some (.lst xs)) : isiD (.loc n) kd st = .ok (.bl (decide (some Kd.lst = some kd ∨ (some Kd.lst = some .bool ∧ kd = .int)))) st := by unfold isiD kindD; simp only [h1]; rfl
theorem d_slS {lo hi : Option Int} (h : t.length ≤ LIM) : slD (.str t) lo hi st = .ok (.str (cutD t lo hi)) st := by unfold slD; simp only; rw [if_pos h]
theorem d_fld {f : PySem.Str} {cn : Nat} {fs : List (PySem.Str × D)} (h1 : st[n]? = some (.ins cn fs)) (h2 : fs.lookup f = some d) : fldD (.loc n) f st = .ok d st := by unfold fldD; simp only [h1]; rw [h2]; rfl
theorem r_lst {me : Me} (h1 : st[n]? = some (.lst xs)) (hm : me ≠ .join) : recvOk me st (.loc n) = true := by
  unfold recvOk; cases me <;> first | (exact absurd rfl hm) | (simp [kindD, h1])
theorem d_pop {y : D} (h1 : st[n]? = some (.lst xs)) (h2 : xs.getLast? = some y) : me0D .pop (.loc n) st = .ok y (st.set n (.lst xs.dropLast)) := by unfold me0D; simp only [h1, h2]
theorem d_app (h1 : st[n]? = some (.lst xs)) (h2 : xs.length < LIM) : me1D .append (.loc n) y st = .ok .non (st.set n (.lst (xs ++ [y]))) := by unfold me1D; simp only [h1]; rw [if_pos h2]
theorem d_popAt {j : Nat} {y : D} (h1 : st[n]? = some (.lst xs)) (h2 : L2.ixN xs.length z = some j) (h3 : xs[j]? = some y) (h4 : xs.length ≤ LIM) : me1D .pop (.loc n) (.int z) st = .ok y (st.set n (.lst (xs.eraseIdx j))) := by
  unfold me1D; simp only [h1, h2, h3]; rw [if_pos h4]
theorem d_ext {ys : List D} (h1 : st[n]? = some (.lst xs)) (h2 : st[m]? = some (.lst ys)) (h3 : xs.length + ys.length ≤ LIM) : me1D .extend (.loc n) (.loc m) st = .ok .non (st.set n (.lst (xs ++ ys))) := by unfold me1D; simp only [h1, h2]; rw [if_pos h3]
theorem strsD_map (ts : List Tx) : strsD (ts.map D.str) = some ts := by
  induction ts with
  | nil => rfl
  | cons t ts ih => rw [List.map_cons, strsD, ih]
theorem d_join {sep : Tx} {ts : List Tx} (h1 : st[n]? = some (.lst (ts.map D.str))) (h2 : (ts.map List.length).sum + ts.length * sep.length ≤ LIM) : me1D .join (.str sep) (.loc n) st = .ok (.str (joinT sep ts)) st := by
  unfold me1D seqD; simp only [h1]; rw [ofO_some, R_bind_ok, strsD_map, ofO_some, R_bind_ok, if_pos h2]
theorem at_last {c : Cell} : (st ++ [c])[st.length]? = some c := by simp
theorem atI_0 {α : Type} {x : α} {xs : List α} : L2.atI (x :: xs) 0 = some x := by
  unfold L2.atI L2.ixN
  rw [if_pos (Int.le_refl 0), if_pos (by simp only [List.length_cons]; omega)]; rfl
theorem ixN_0 {n : Nat} : L2.ixN (n + 1) 0 = some 0 := by
  unfold L2.ixN
  rw [if_pos (Int.le_refl 0), if_pos (by omega)]; rfl
theorem atI_nat {α : Type} {xs : List α} {i : Nat} {x : α} (h : xs[i]? = some x) : L2.atI xs (i : Int) = some x := L2.atI_nat h
end
end Z
/-! ### the text as IR (printed by gen.py) -/
namespace Law
open Z
def n_kind : PySem.Str := PySem.Str.mk #[107, 105, 110, 100]
def n_at : PySem.Str := PySem.Str.mk #[97, 116]
def n_text : PySem.Str := PySem.Str.mk #[116, 101, 120, 116]
def n_whole : PySem.Str := PySem.Str.mk #[119, 104, 111, 108, 101]
def n_part : PySem.Str := PySem.Str.mk #[112, 97, 114, 116]
def n_here : PySem.Str := PySem.Str.mk #[104, 101, 114, 101]
def n_take : PySem.Str := PySem.Str.mk #[116, 97, 107, 101]
def n_do : PySem.Str := PySem.Str.mk #[100, 111]
@[simp] theorem ne_n_kind_n_at : (n_kind = n_at) = False := by unfold n_kind n_at; simp
@[simp] theorem ne_n_kind_n_text : (n_kind = n_text) = False := by unfold n_kind n_text; simp
@[simp] theorem ne_n_kind_n_whole : (n_kind = n_whole) = False := by unfold n_kind n_whole; simp
@[simp] theorem ne_n_kind_n_part : (n_kind = n_part) = False := by unfold n_kind n_part; simp
@[simp] theorem ne_n_kind_n_here : (n_kind = n_here) = False := by unfold n_kind n_here; simp
@[simp] theorem ne_n_kind_n_take : (n_kind = n_take) = False := by unfold n_kind n_take; simp
@[simp] theorem ne_n_kind_n_do : (n_kind = n_do) = False := by unfold n_kind n_do; simp
@[simp] theorem ne_n_at_n_kind : (n_at = n_kind) = False := by unfold n_at n_kind; simp
@[simp] theorem ne_n_at_n_text : (n_at = n_text) = False := by unfold n_at n_text; simp
@[simp] theorem ne_n_at_n_whole : (n_at = n_whole) = False := by unfold n_at n_whole; simp
@[simp] theorem ne_n_at_n_part : (n_at = n_part) = False := by unfold n_at n_part; simp
@[simp] theorem ne_n_at_n_here : (n_at = n_here) = False := by unfold n_at n_here; simp
@[simp] theorem ne_n_at_n_take : (n_at = n_take) = False := by unfold n_at n_take; simp
@[simp] theorem ne_n_at_n_do : (n_at = n_do) = False := by unfold n_at n_do; simp
@[simp] theorem ne_n_text_n_kind : (n_text = n_kind) = False := by unfold n_text n_kind; simp
@[simp] theorem ne_n_text_n_at : (n_text = n_at) = False := by unfold n_text n_at; simp
@[simp] theorem ne_n_text_n_whole : (n_text = n_whole) = False := by unfold n_text n_whole; simp
@[simp] theorem ne_n_text_n_part : (n_text = n_part) = False := by unfold n_text n_part; simp
@[simp] theorem ne_n_text_n_here : (n_text = n_here) = False := by unfold n_text n_here; simp
@[simp] theorem ne_n_text_n_take : (n_text = n_take) = False := by unfold n_text n_take; simp
@[simp] theorem ne_n_text_n_do : (n_text = n_do) = False := by unfold n_text n_do; simp
@[simp] theorem ne_n_whole_n_kind : (n_whole = n_kind) = False := by unfold n_whole n_kind; simp
@[simp] theorem ne_n_whole_n_at : (n_whole = n_at) = False := by unfold n_whole n_at; simp
@[simp] theorem ne_n_whole_n_text : (n_whole = n_text) = False := by unfold n_whole n_text; simp
@[simp] theorem ne_n_whole_n_part : (n_whole = n_part) = False := by unfold n_whole n_part; simp
@[simp] theorem ne_n_whole_n_here : (n_whole = n_here) = False := by unfold n_whole n_here; simp
@[simp] theorem ne_n_whole_n_take : (n_whole = n_take) = False := by unfold n_whole n_take; simp
@[simp] theorem ne_n_whole_n_do : (n_whole = n_do) = False := by unfold n_whole n_do; simp
@[simp] theorem ne_n_part_n_kind : (n_part = n_kind) = False := by unfold n_part n_kind; simp
@[simp] theorem ne_n_part_n_at : (n_part = n_at) = False := by unfold n_part n_at; simp
@[simp] theorem ne_n_part_n_text : (n_part = n_text) = False := by unfold n_part n_text; simp
@[simp] theorem ne_n_part_n_whole : (n_part = n_whole) = False := by unfold n_part n_whole; simp
@[simp] theorem ne_n_part_n_here : (n_part = n_here) = False := by unfold n_part n_here; simp
@[simp] theorem ne_n_part_n_take : (n_part = n_take) = False := by unfold n_part n_take; simp
@[simp] theorem ne_n_part_n_do : (n_part = n_do) = False := by unfold n_part n_do; simp
@[simp] theorem ne_n_here_n_kind : (n_here = n_kind) = False := by unfold n_here n_kind; simp
@[simp] theorem ne_n_here_n_at : (n_here = n_at) = False := by unfold n_here n_at; simp
@[simp] theorem ne_n_here_n_text : (n_here = n_text) = False := by unfold n_here n_text; simp
@[simp] theorem ne_n_here_n_whole : (n_here = n_whole) = False := by unfold n_here n_whole; simp
@[simp] theorem ne_n_here_n_part : (n_here = n_part) = False := by unfold n_here n_part; simp
@[simp] theorem ne_n_here_n_take : (n_here = n_take) = False := by unfold n_here n_take; simp
@[simp] theorem ne_n_here_n_do : (n_here = n_do) = False := by unfold n_here n_do; simp
@[simp] theorem ne_n_take_n_kind : (n_take = n_kind) = False := by unfold n_take n_kind; simp
@[simp] theorem ne_n_take_n_at : (n_take = n_at) = False := by unfold n_take n_at; simp
@[simp] theorem ne_n_take_n_text : (n_take = n_text) = False := by unfold n_take n_text; simp
@[simp] theorem ne_n_take_n_whole : (n_take = n_whole) = False := by unfold n_take n_whole; simp
@[simp] theorem ne_n_take_n_part : (n_take = n_part) = False := by unfold n_take n_part; simp
@[simp] theorem ne_n_take_n_here : (n_take = n_here) = False := by unfold n_take n_here; simp
@[simp] theorem ne_n_take_n_do : (n_take = n_do) = False := by unfold n_take n_do; simp
@[simp] theorem ne_n_do_n_kind : (n_do = n_kind) = False := by unfold n_do n_kind; simp
@[simp] theorem ne_n_do_n_at : (n_do = n_at) = False := by unfold n_do n_at; simp
@[simp] theorem ne_n_do_n_text : (n_do = n_text) = False := by unfold n_do n_text; simp
@[simp] theorem ne_n_do_n_whole : (n_do = n_whole) = False := by unfold n_do n_whole; simp
@[simp] theorem ne_n_do_n_part : (n_do = n_part) = False := by unfold n_do n_part; simp
@[simp] theorem ne_n_do_n_here : (n_do = n_here) = False := by unfold n_do n_here; simp
@[simp] theorem ne_n_do_n_take : (n_do = n_take) = False := by unfold n_do n_take; simp
abbrev g_ANY : D := (.tup [(.str [97, 110, 121])])
abbrev g_DO : D := (.str [100, 111])
abbrev g_FIGURES : D := (.str [48, 49, 50, 51, 52, 53, 54, 55, 56, 57])
abbrev g_LABELS : D := (.str [97, 98, 99, 100, 101, 102])
abbrev g_LEAF : D := (.tup [(.str [108, 101, 97, 102])])
abbrev g_MOST_DEEP : D := (.int 12)
abbrev g_MOST_KIDS : D := (.int 3)
abbrev g_MOST_PLACES : D := (.int 60)
abbrev f_law : Nat := 0
abbrev f_written : Nat := 1
abbrev f_read : Nat := 2
abbrev f_law_alike : Nat := 3
abbrev f_law_text : Nat := 4
abbrev f_law_tree : Nat := 5
abbrev f_law_begun : Nat := 6
abbrev f_tree_text : Nat := 7
abbrev f_need_tree : Nat := 8
abbrev f_Signs_init : Nat := 9
abbrev f_Signs_whole : Nat := 10
abbrev f_law_grown : Nat := 11
abbrev f_law_take : Nat := 12
abbrev f_is_node : Nat := 13
abbrev f_Signs_part : Nat := 14
abbrev f_is_label : Nat := 15
abbrev f_Signs_here : Nat := 16
abbrev f_Signs_take : Nat := 17
abbrev f_Signs_do : Nat := 18
abbrev c_Signs : Nat := 0
abbrev m_whole : Nat := 0
abbrev m_part : Nat := 1
abbrev m_here : Nat := 2
abbrev m_take : Nat := 3
abbrev m_do : Nat := 4
/-- law(_law_script) : 0 _law_script, 1 _law_box, 2 _law_turn, 3 _law_tree_here, 4 _law_text_here -/
def b_law : ISs := (.cons (.asg (.name 1) (.call f_law_begun (.cons (.var 0) .nil))) (.cons (.for_ (.name 2) (.rng1 (.cst (.int 6))) (.cons (.asg (.name 3) (.call f_law_tree (.cons (.var 1) (.cons (.cst (.str [97, 98, 99, 100, 101, 102])) .nil)))) (.cons (.asg (.name 4) (.call f_law_text (.cons (.var 3) .nil))) (.cons (.ite (.or (.not (.call f_law_alike (.cons (.call f_written (.cons (.var 3) .nil)) (.cons (.var 4) .nil)))) (.not (.call f_law_alike (.cons (.call f_read (.cons (.var 4) .nil)) (.cons (.var 3) .nil))))) (.cons (.ret (.cst (.bl false))) .nil) .nil) (.cons (.ite (.cmp .ne (.call f_written (.cons (.call f_read (.cons (.var 4) .nil)) .nil)) (.var 4)) (.cons (.ret (.cst (.bl false))) .nil) .nil) .nil))))) (.cons (.ret (.cst (.bl true))) .nil)))
/-- written(tree) : 0 tree -/
def b_written : ISs := (.cons (.expr (.call f_need_tree (.cons (.var 0) .nil))) (.cons (.ret (.call f_tree_text (.cons (.var 0) .nil))) .nil))
/-- read(text) : 0 text, 1 tree -/
def b_read : ISs := (.cons (.asg (.name 1) (.om n_whole m_whole (.mk c_Signs (.cons (.var 0) (.cons (.cst (.str [116, 114, 101, 101])) .nil))) .nil)) (.cons (.expr (.call f_need_tree (.cons (.var 1) .nil))) (.cons (.ret (.var 1)) .nil)))
/-- _law_alike(_law_found, _law_due) : 0 _law_found, 1 _law_due, 2 _law_k -/
def b_law_alike : ISs := (.cons (.ite (.cmp .isN (.var 1) (.cst .non)) (.cons (.ret (.cmp .isN (.var 0) (.cst .non))) .nil) .nil) (.cons (.ite (.isi (.var 1) .bool) (.cons (.ret (.and (.isi (.var 0) .bool) (.cmp .eq (.var 0) (.var 1)))) .nil) .nil) (.cons (.ite (.isi (.var 1) .int) (.cons (.ret (.and (.isi (.var 0) .int) (.and (.not (.isi (.var 0) .bool)) (.cmp .eq (.var 0) (.var 1))))) .nil) .nil) (.cons (.ite (.isi (.var 1) .str) (.cons (.ret (.and (.isi (.var 0) .str) (.cmp .eq (.var 0) (.var 1)))) .nil) .nil) (.cons (.ite (.or (.cmp .ne (.isi (.var 1) .tup) (.isi (.var 0) .tup)) (.cmp .ne (.isi (.var 1) .lst) (.isi (.var 0) .lst))) (.cons (.ret (.cst (.bl false))) .nil) .nil) (.cons (.ite (.cmp .ne (.bi .len (.var 0)) (.bi .len (.var 1))) (.cons (.ret (.cst (.bl false))) .nil) .nil) (.cons (.for_ (.name 2) (.rng1 (.bi .len (.var 1))) (.cons (.ite (.not (.call f_law_alike (.cons (.ix (.var 0) (.var 2)) (.cons (.ix (.var 1) (.var 2)) .nil)))) (.cons (.ret (.cst (.bl false))) .nil) .nil) .nil)) (.cons (.ret (.cst (.bl true))) .nil))))))))
/-- _law_text(_law_tree_here) : 0 _law_tree_here, 1 _law_kid -/
def b_law_text : ISs := (.cons (.ite (.cmp .eq (.ix (.var 0) (.cst (.int 1))) (.tup .nil)) (.cons (.ret (.ix (.var 0) (.cst (.int 0)))) .nil) .nil) (.cons (.ret (.bin .add (.bin .add (.bin .add (.ix (.var 0) (.cst (.int 0))) (.cst (.str [40]))) (.me1 .join (.cst (.str [44])) (.comp (.call f_law_text (.cons (.var 1) .nil)) (.name 1) [1] (.it (.ix (.var 0) (.cst (.int 1)))) .none))) (.cst (.str [41])))) .nil))
/-- _law_tree(_law_box, _law_letters_here) : 0 _law_box, 1 _law_letters_here, 2 _law_most -/
def b_law_tree : ISs := (.cons (.asg (.name 2) (.ix (.lst (.cons (.cst (.int 1)) (.cons (.cst (.int 6)) (.cons (.cst (.int 14)) (.cons (.cst (.int 60)) .nil))))) (.call f_law_take (.cons (.var 0) (.cons (.cst (.int 4)) .nil))))) (.cons (.ret (.call f_law_grown (.cons (.var 0) (.cons (.var 1) (.cons (.lst (.cons (.var 2) .nil)) (.cons (.ix (.lst (.cons (.cst (.int 4)) (.cons (.cst (.int 12)) .nil))) (.call f_law_take (.cons (.var 0) (.cons (.cst (.int 2)) .nil)))) .nil)))))) .nil))
/-- _law_begun(_law_script) : 0 _law_script, 1 _law_stirred, 2 _law_cell -/
def b_law_begun : ISs := (.cons (.asg (.name 1) (.cst (.int 0))) (.cons (.for_ (.name 2) (.it (.var 0)) (.cons (.asg (.name 1) (.bin .mod (.bin .add (.bin .add (.bin .mul (.var 1) (.cst (.int 48271))) (.bin .mul (.var 2) (.cst (.int 69621)))) (.cst (.int 11))) (.cst (.int 2147483647)))) .nil)) (.cons (.ret (.lst (.cons (.bi .list (.var 0)) (.cons (.bin .mul (.var 1) (.bi .int (.cmp .gt (.bi .len (.var 0)) (.cst (.int 2))))) .nil)))) .nil)))
/-- tree_text(tree) : 0 tree, 1 kids, 2 kid -/
def b_tree_text : ISs := (.cons (.asg (.name 1) (.me1 .join (.cst (.str [44])) (.comp (.call f_tree_text (.cons (.var 2) .nil)) (.name 2) [2] (.it (.ix (.var 0) (.cst (.int 1)))) .none))) (.cons (.ret (.bin .add (.ix (.var 0) (.cst (.int 0))) (.ite (.cmp .ne (.var 1) (.cst (.str []))) (.bin .add (.bin .add (.cst (.str [40])) (.var 1)) (.cst (.str [41]))) (.cst (.str []))))) .nil))
/-- need_tree(tree) : 0 tree, 1 left, 2 many, 3 kids, 4 place, 5 part, 6 k -/
def b_need_tree : ISs := (.cons (.asg (.name 1) (.lst (.cons (.tup (.cons (.tup .nil) (.cons (.var 0) .nil))) .nil))) (.cons (.asg (.name 2) (.cst (.int 0))) (.cons (.whl (.cmp .ne (.var 1) (.lst .nil)) (.cons (.asg (.tup [4, 5]) (.me0 .pop (.var 1))) (.cons (.asg (.name 2) (.bin .add (.var 2) (.cst (.int 1)))) (.cons (.ite (.or (.cmp .gt (.var 2) (.gl g_MOST_PLACES)) (.or (.cmp .ge (.bi .len (.var 4)) (.gl g_MOST_DEEP)) (.not (.call f_is_node (.cons (.var 5) .nil))))) (.cons .never .nil) .nil) (.cons (.asg (.name 3) (.comp (.tup (.cons (.bin .add (.var 4) (.tup (.cons (.var 6) .nil))) (.cons (.ix (.ix (.var 5) (.cst (.int 1))) (.var 6)) .nil))) (.name 6) [6] (.rng1 (.bi .len (.ix (.var 5) (.cst (.int 1))))) .none)) (.cons (.expr (.me1 .extend (.var 1) (.rev (.var 3)))) .nil)))))) .nil)))
/-- Signs.__init__(self, text, kind) : 0 self, 1 text, 2 kind -/
def b_Signs_init : ISs := (.cons (.setf (.var 0) n_text (.var 1)) (.cons (.setf (.var 0) n_at (.cst (.int 0))) (.cons (.setf (.var 0) n_kind (.var 2)) .nil)))
/-- Signs.whole(self) : 0 self, 1 found -/
def b_Signs_whole : ISs := (.cons (.asg (.name 1) (.om n_part m_part (.var 0) .nil)) (.cons (.ite (.cmp .lt (.fld (.var 0) n_at) (.bi .len (.fld (.var 0) n_text))) (.cons .never .nil) .nil) (.cons (.ret (.var 1)) .nil)))
/-- _law_grown(_law_box, _law_letters_here, _law_left, _law_deep) : 0 _law_box, 1 _law_letters_here, 2 _law_left, 3 _law_deep, 4 _law_kids, 5 _law_k -/
def b_law_grown : ISs := (.cons (.seti (.var 2) (.cst (.int 0)) (.bin .sub (.ix (.var 2) (.cst (.int 0))) (.cst (.int 1)))) (.cons (.asg (.name 4) (.lst .nil)) (.cons (.for_ (.name 5) (.rng1 (.call f_law_take (.cons (.var 0) (.cons (.cst (.int 4)) .nil)))) (.cons (.ite (.and (.cmp .gt (.var 3) (.cst (.int 1))) (.cmp .gt (.ix (.var 2) (.cst (.int 0))) (.cst (.int 0)))) (.cons (.expr (.me1 .append (.var 4) (.call f_law_grown (.cons (.var 0) (.cons (.var 1) (.cons (.var 2) (.cons (.bin .sub (.var 3) (.cst (.int 1))) .nil))))))) .nil) .nil) .nil)) (.cons (.ret (.tup (.cons (.ix (.var 1) (.call f_law_take (.cons (.var 0) (.cons (.bi .len (.var 1)) .nil)))) (.cons (.bi .tuple (.var 4)) .nil)))) .nil))))
/-- _law_take(_law_box, _law_many) : 0 _law_box, 1 _law_many, 2 _law_number -/
def b_law_take : ISs := (.cons (.ite (.cmp .eq (.ix (.var 0) (.cst (.int 0))) (.lst .nil)) (.cons (.seti (.var 0) (.cst (.int 1)) (.bin .mod (.bin .mul (.ix (.var 0) (.cst (.int 1))) (.cst (.int 48271))) (.cst (.int 2147483647)))) (.cons (.ret (.bin .mod (.bin .fdiv (.ix (.var 0) (.cst (.int 1))) (.cst (.int 7))) (.var 1))) .nil)) .nil) (.cons (.asg (.name 2) (.ix (.ix (.var 0) (.cst (.int 0))) (.cst (.int 0)))) (.cons (.seti (.ix (.var 0) (.cst (.int 0))) (.cst (.int 0)) (.bin .fdiv (.var 2) (.var 1))) (.cons (.ite (.or (.cmp .eq (.ix (.ix (.var 0) (.cst (.int 0))) (.cst (.int 0))) (.cst (.int 0))) (.cmp .eq (.ix (.ix (.var 0) (.cst (.int 0))) (.cst (.int 0))) (.cst (.int (-1))))) (.cons (.expr (.me1 .pop (.ix (.var 0) (.cst (.int 0))) (.cst (.int 0)))) .nil) .nil) (.cons (.ret (.bin .mod (.var 2) (.var 1))) .nil)))))
/-- is_node(tree) : 0 tree -/
def b_is_node : ISs := (.cons (.ite (.or (.not (.isi (.var 0) .tup)) (.or (.cmp .ne (.bi .len (.var 0)) (.cst (.int 2))) (.not (.call f_is_label (.cons (.ix (.var 0) (.cst (.int 0))) .nil))))) (.cons (.ret (.cst (.bl false))) .nil) .nil) (.cons (.ret (.and (.isi (.ix (.var 0) (.cst (.int 1))) .tup) (.cmp .le (.bi .len (.ix (.var 0) (.cst (.int 1)))) (.gl g_MOST_KIDS)))) .nil))
/-- Signs.part(self) : 0 self, 1 label, 2 kids -/
def b_Signs_part : ISs := (.cons (.ite (.and (.cmp .eq (.fld (.var 0) n_kind) (.cst (.str [112, 97, 116, 116, 101, 114, 110]))) (.cmp .mem (.om n_here m_here (.var 0) .nil) (.tup (.cons (.cst (.str [63])) (.cons (.cst (.str [46])) .nil))))) (.cons (.ret (.ite (.cmp .eq (.om n_take m_take (.var 0) (.cons (.cst (.str [63, 46])) .nil)) (.cst (.str [63]))) (.gl g_ANY) (.gl g_LEAF))) .nil) .nil) (.cons (.ite (.and (.cmp .eq (.fld (.var 0) n_kind) (.cst (.str [98, 117, 105, 108, 100]))) (.and (.cmp .ne (.om n_here m_here (.var 0) .nil) (.cst (.str []))) (.cmp .mem (.om n_here m_here (.var 0) .nil) (.gl g_FIGURES)))) (.cons (.ret (.om n_do m_do (.var 0) .nil)) .nil) .nil) (.cons (.asg (.name 1) (.om n_take m_take (.var 0) (.cons (.gl g_LABELS) .nil))) (.cons (.asg (.name 2) (.lst .nil)) (.cons (.ite (.cmp .eq (.om n_here m_here (.var 0) .nil) (.cst (.str [40]))) (.cons (.setf (.var 0) n_at (.bin .add (.fld (.var 0) n_at) (.cst (.int 1)))) (.cons (.expr (.me1 .append (.var 2) (.om n_part m_part (.var 0) .nil))) (.cons (.whl (.cmp .eq (.om n_take m_take (.var 0) (.cons (.cst (.str [44, 41])) .nil)) (.cst (.str [44]))) (.cons (.expr (.me1 .append (.var 2) (.om n_part m_part (.var 0) .nil))) .nil)) .nil))) .nil) (.cons (.ret (.tup (.cons (.var 1) (.cons (.bi .tuple (.var 2)) .nil)))) .nil))))))
/-- is_label(part) : 0 part -/
def b_is_label : ISs := (.cons (.ret (.and (.isi (.var 0) .str) (.and (.cmp .eq (.bi .len (.var 0)) (.cst (.int 1))) (.cmp .mem (.var 0) (.gl g_LABELS))))) .nil)
/-- Signs.here(self) : 0 self -/
def b_Signs_here : ISs := (.cons (.ret (.sl (.fld (.var 0) n_text) (.some (.fld (.var 0) n_at)) (.some (.bin .add (.fld (.var 0) n_at) (.cst (.int 1)))))) .nil)
/-- Signs.take(self, signs) : 0 self, 1 signs, 2 sign -/
def b_Signs_take : ISs := (.cons (.asg (.name 2) (.om n_here m_here (.var 0) .nil)) (.cons (.ite (.or (.cmp .eq (.var 2) (.cst (.str []))) (.cmp .nmem (.var 2) (.var 1))) (.cons .never .nil) .nil) (.cons (.setf (.var 0) n_at (.bin .add (.fld (.var 0) n_at) (.cst (.int 1)))) (.cons (.ret (.var 2)) .nil))))
/-- Signs.do(self) : 0 self, 1 state, 2 path -/
def b_Signs_do : ISs := (.cons (.asg (.name 1) (.bi .int (.om n_take m_take (.var 0) (.cons (.gl g_FIGURES) .nil)))) (.cons (.expr (.om n_take m_take (.var 0) (.cons (.cst (.str [58])) .nil))) (.cons (.asg (.name 2) (.lst (.cons (.bi .int (.om n_take m_take (.var 0) (.cons (.gl g_FIGURES) .nil))) .nil))) (.cons (.ite (.cmp .eq (.om n_here m_here (.var 0) .nil) (.cst (.str [46]))) (.cons (.setf (.var 0) n_at (.bin .add (.fld (.var 0) n_at) (.cst (.int 1)))) (.cons (.expr (.me1 .append (.var 2) (.bi .int (.om n_take m_take (.var 0) (.cons (.gl g_FIGURES) .nil))))) .nil)) .nil) (.cons (.ret (.tup (.cons (.gl g_DO) (.cons (.var 1) (.cons (.bi .tuple (.var 2)) .nil))))) .nil)))))
def fns : List FnIR := [⟨1, 5, b_law⟩,
  ⟨1, 1, b_written⟩,
  ⟨1, 2, b_read⟩,
  ⟨2, 3, b_law_alike⟩,
  ⟨1, 2, b_law_text⟩,
  ⟨2, 3, b_law_tree⟩,
  ⟨1, 3, b_law_begun⟩,
  ⟨1, 3, b_tree_text⟩,
  ⟨1, 7, b_need_tree⟩,
  ⟨3, 3, b_Signs_init⟩,
  ⟨1, 2, b_Signs_whole⟩,
  ⟨4, 6, b_law_grown⟩,
  ⟨2, 3, b_law_take⟩,
  ⟨1, 1, b_is_node⟩,
  ⟨1, 3, b_Signs_part⟩,
  ⟨1, 1, b_is_label⟩,
  ⟨1, 1, b_Signs_here⟩,
  ⟨2, 3, b_Signs_take⟩,
  ⟨1, 3, b_Signs_do⟩]
def ini : Nat → Option Nat := fun c => match c with | 0 => some f_Signs_init | _ => none
def meth : Nat → Nat → Option Nat := fun c m => match c, m with | 0, 0 => some f_Signs_whole | 0, 1 => some f_Signs_part | 0, 2 => some f_Signs_here | 0, 3 => some f_Signs_take | 0, 4 => some f_Signs_do | _, _ => none
def pr : Prog := ⟨fns, ini, meth⟩
end Law
namespace Z
/-- nothing: a name for the tactics below -/
theorem triv_ : True := trivial
end Z
open Z in
local macro_rules | `(tactic| walk_at "at") => `(tactic| (first
  | assumption
  | exact at_last
  | (apply app_at; walk_at "at")
  | (apply set_here; walk_at "at")
  | (apply set_at; (walk_at "at"); (first | assumption | omega | (simp only [List.length_append, List.length_cons, List.length_nil, List.length_set]; omega)))))
open Z in
local macro_rules | `(tactic| walk_at "cond") => `(tactic| (first | assumption | omega | (decide) | (constructor <;> omega) | (right; constructor <;> omega) | (left; constructor <;> omega) | (simp [LIM]; done) | (simp [LIM]; omega)))
open Z in
local macro_rules | `(tactic| walk_at "ev") => `(tactic| repeat' (first
  | exact e_cst | exact e_gl | exact e_var rfl | exact e_nil | exact e_on
  | apply e_bin | apply e_cmp | apply e_not | apply e_ix | apply e_sl | apply e_os | apply e_rev | apply e_fld | apply e_isi | apply e_bi
  | (apply e_tup; rotate_left; (simp; done)) | (apply e_lst; rotate_left; (simp; done)) | apply e_cons
  | exact d_mul (by walk_at "cond") | exact d_fdiv (by walk_at "cond") | exact d_mod (by walk_at "cond")
  | exact d_eq rfl | exact d_ne rfl | exact d_eq (d_eqL (by walk_at "at") (by walk_at "at")) | exact d_ne (d_eqL (by walk_at "at") (by walk_at "at"))
  | exact d_ixT rfl | exact d_ixL (by walk_at "at") rfl | exact d_ixL (by walk_at "at") atI_0
  | exact d_lenL (by walk_at "at") | exact d_lenS (by walk_at "cond") | exact d_tupL (by walk_at "at") | exact d_listL (by walk_at "at")
  | exact d_fld (by walk_at "at") (by simp [List.lookup]; done)
  | with_reducible rfl | rfl))
namespace Law
open Z
/-- the draws' box -/
structure BoxAt (st : Sto) (b c : Nat) (ns : List Int) (s : Int) : Prop where
  at_b : st[b]? = some (.lst [.loc c, .int s])
  at_c : st[c]? = some (.lst (ns.map D.int))
  few : ns.length ≤ 63
theorem BoxAt.ne {st : Sto} {b c : Nat} {ns : List Int} {s : Int} (h : BoxAt st b c ns s) : b ≠ c := fun e => by
  have h1 := h.at_b
  rw [e, h.at_c] at h1
  cases ns <;> simp at h1
theorem BoxAt.keep {S : List Nat} {st st' : Sto} {b c : Nat} {ns : List Int} {s : Int} (h : BoxAt st b c ns s) (k : Keep S st st') (hb : b ∉ S) (hc : c ∉ S) : BoxAt st' b c ns s := ⟨k.get h.at_b hb, k.get h.at_c hc, h.few⟩
theorem take_spec (F k : Nat) {st : Sto} {b c : Nat} {ns : List Int} {s m : Int} (hb : BoxAt st b c ns s) (h0 : 0 < m) (h1 : m < 1000) :
    ∃ r st' ns' s', pr.call F (k + 1) f_law_take [.loc b, .int m] st = .ok (.int r) st' ∧ 0 ≤ r ∧ r < m ∧ BoxAt st' b c ns' s' ∧ Keep [b, c] st st' ∧ st'.length = st.length := by
  obtain ⟨h2, h3, h4⟩ := id hb
  have hne := hb.ne
  have hbl := lt_of_at h2
  have hcl := lt_of_at h3
  cases ns with
  | nil =>
    have e : ∃ ρ1, evSs (pr.cl F k) F b_law_take [some (D.loc b), some (D.int m), none] st = .ok (.rt (.int (s * 48271 % 2147483647 / 7 % m))) ρ1 ((st ++ [Cell.lst []]).set b (.lst [.loc c, .int (s * 48271 % 2147483647)])) := by
      apply Exists.intro
      apply b_rt; apply s_ifT
      · walk_at "ev"
      · rfl
      apply b_cons
      · apply s_seti
        · walk_at "ev"
        · walk_at "ev"
        · walk_at "ev"
        · walk_at "at"
        · rfl
      apply b_rt
      apply s_ret
      walk_at "ev"
    obtain ⟨ρ1, e⟩ := e
    have a1 := app_at [Cell.lst []] h2
    have a2 := app_at [Cell.lst []] h3
    have g1 := set_here (c' := Cell.lst [.loc c, .int (s * 48271 % 2147483647)]) a1
    have g2 := set_at (c' := Cell.lst [.loc c, .int (s * 48271 % 2147483647)]) a2 hne
    have kp : Keep [b, c] st ((st ++ [Cell.lst []]).set b (.lst [.loc c, .int (s * 48271 % 2147483647)])) := (Keep.app _ _ _).trans (Keep.set (by simp))
    obtain ⟨st', e1, k1, l1, at1⟩ := finish_keep (S := [b, c]) (d := .int (s * 48271 % 2147483647 / 7 % m)) rfl kp (fun i hi => by
      simp only [List.mem_cons, List.not_mem_nil, or_false] at hi
      rcases hi with rfl | rfl
      · exact ⟨_, g1, by simp [clC, clDs, clD, hcl]⟩
      · exact ⟨_, g2, by simp [clC, clDs]⟩)
    refine ⟨s * 48271 % 2147483647 / 7 % m, st', [], s * 48271 % 2147483647, ?_, Int.emod_nonneg _ (by omega), Int.emod_lt_of_pos _ h0, ⟨by rw [at1 b hbl]; exact g1, by rw [at1 c hcl]; exact g2, by simp⟩, k1, l1⟩
    rw [c_rt (fi := ⟨2, 3, b_law_take⟩) rfl rfl e, e1]
  | cons n ns =>
    have h3' : st[c]? = some (.lst (.int n :: ns.map D.int)) := h3
    have a1 := app_at [Cell.lst []] h2
    have a2 := app_at [Cell.lst []] h3'
    have hx : L2.atI (D.int n :: ns.map D.int) 0 = some (.int n) := atI_0
    have b1 := set_at (c' := Cell.lst (.int (n / m) :: ns.map D.int)) a1 hne.symm
    have b2 := set_here (c' := Cell.lst (.int (n / m) :: ns.map D.int)) a2
    have hl : (st ++ [Cell.lst []]).length = st.length + 1 := by simp
    generalize hS : (st ++ [Cell.lst []]).set c (.lst (.int (n / m) :: ns.map D.int)) = S at b1 b2
    have hw : 0 < m ∧ m < 1073741824 := ⟨h0, by omega⟩
    have kS : Keep [b, c] st S := by rw [← hS]; exact (Keep.app _ _ _).trans (Keep.set (by simp))
    -- the way, by whether the first number is used up
    have e : ∃ (ρ1 : Env) (S2 : Sto) (ns2 : List Int), evSs (pr.cl F k) F b_law_take [some (D.loc b), some (D.int m), none] st = .ok (.rt (.int (n % m))) ρ1 S2 ∧ S2[b]? = some (.lst [.loc c, .int s]) ∧ S2[c]? = some (.lst (ns2.map D.int)) ∧ ns2.length ≤ 63 ∧ Keep [b, c] st S2 := by
      have head : ∀ res, evSs (pr.cl F k) F (ISs.cons (.ite (.or (.cmp .eq (.ix (.ix (.var 0) (.cst (.int 0))) (.cst (.int 0))) (.cst (.int 0))) (.cmp .eq (.ix (.ix (.var 0) (.cst (.int 0))) (.cst (.int 0))) (.cst (.int (-1))))) (.cons (.expr (.me1 .pop (.ix (.var 0) (.cst (.int 0))) (.cst (.int 0)))) .nil) .nil) (.cons (.ret (.bin .mod (.var 2) (.var 1))) .nil)) [some (D.loc b), some (D.int m), some (.int n)] S = res →
          evSs (pr.cl F k) F b_law_take [some (D.loc b), some (D.int m), none] st = res := fun res hres => by
        apply b_cons
        · apply s_ifF
          · walk_at "ev"
          · rfl
          exact b_nil
        apply b_cons
        · apply s_asg
          · walk_at "ev"
          rfl
        apply b_cons
        · apply s_seti
          · apply e_bin
            · walk_at "ev"
            · walk_at "ev"
            · exact d_fdiv hw
          · walk_at "ev"
          · walk_at "ev"
          · exact a2
          · exact ixN_0
        rw [show ([some (D.loc b), some (D.int m), some (.int n)] : Env) = ([some (D.loc b), some (D.int m), none] : Env).set 2 (some (.int n)) from rfl] at hres
        rw [← hS] at hres
        exact hres
      have test : ev (pr.cl F k) (.or (.cmp .eq (.ix (.ix (.var 0) (.cst (.int 0))) (.cst (.int 0))) (.cst (.int 0))) (.cmp .eq (.ix (.ix (.var 0) (.cst (.int 0))) (.cst (.int 0))) (.cst (.int (-1))))) [some (D.loc b), some (D.int m), some (.int n)] S = .ok (.bl (decide (n / m = 0) || decide (n / m = -1))) S := by
        apply e_or
        · walk_at "ev"
        · intro _; walk_at "ev"
      cases hq : (decide (n / m = 0) || decide (n / m = -1)) with
      | true =>
        rw [hq] at test
        refine ⟨[some (D.loc b), some (D.int m), some (.int n)], S.set c (.lst (ns.map D.int)), ns, head _ ?_, set_at b1 hne.symm, set_here b2, by simp at h4; omega, kS.trans (Keep.set (by simp))⟩
        apply b_cons
        · apply s_iteT test
          apply b_cons
          · apply s_expr
            apply e_me1
            · walk_at "ev"
            · exact r_lst b2 (by decide)
            · exact e_cst
            · exact d_popAt (j := 0) b2 ixN_0 rfl (by simp at h4 ⊢; unfold LIM; omega)
          exact b_nil
        apply b_rt
        apply s_ret
        walk_at "ev"
      | false =>
        rw [hq] at test
        refine ⟨[some (D.loc b), some (D.int m), some (.int n)], S, (n / m) :: ns, head _ ?_, b1, b2, by simpa using h4, kS⟩
        apply b_cons
        · apply s_iteF test
          exact b_nil
        apply b_rt
        apply s_ret
        walk_at "ev"
    obtain ⟨ρ1, S2, ns2, e, g1, g2, g3, kp⟩ := e
    obtain ⟨st', e1, k1, l1, at1⟩ := finish_keep (S := [b, c]) (d := .int (n % m)) rfl kp (fun i hi => by
      simp only [List.mem_cons, List.not_mem_nil, or_false] at hi
      rcases hi with rfl | rfl
      · exact ⟨_, g1, by simp [clC, clDs, clD, hcl]⟩
      · exact ⟨_, g2, by simp [clC]⟩)
    refine ⟨n % m, st', ns2, s, ?_, Int.emod_nonneg _ (by omega), Int.emod_lt_of_pos _ h0, ⟨by rw [at1 b hbl]; exact g1, by rw [at1 c hcl]; exact g2, g3⟩, k1, l1⟩
    rw [c_rt (fi := ⟨2, 3, b_law_take⟩) rfl rfl e, e1]
end Law
namespace Law
open Z
/-! ### trees -/
inductive T where
  | node (c : Nat) (ks : List T)
mutual
def dT : T → D
  | .node c ks => .tup [.str [c], .tup (dTs ks)]
def dTs : List T → List D
  | [] => []
  | t :: ts => dT t :: dTs ts
end
mutual
def sz : T → Nat
  | .node _ ks => 1 + szs ks
def szs : List T → Nat
  | [] => 0
  | t :: ts => sz t + szs ts
end
mutual
def ht : T → Nat
  | .node _ ks => 1 + hts ks
def hts : List T → Nat
  | [] => 0
  | t :: ts => max (ht t) (hts ts)
end
mutual
def okT : T → Prop
  | .node c ks => (97 ≤ c ∧ c ≤ 102) ∧ ks.length ≤ 3 ∧ okTs ks
def okTs : List T → Prop
  | [] => True
  | t :: ts => okT t ∧ okTs ts
end
mutual
def tx : T → Tx
  | .node c ks => if ks.isEmpty = true then [c] else c :: 40 :: (joinT [44] (txs ks) ++ [41])
def txs : List T → List Tx
  | [] => []
  | t :: ts => tx t :: txs ts
end
theorem dTs_map : ∀ ts : List T, dTs ts = ts.map dT
  | [] => by rw [dTs]; rfl
  | t :: ts => by rw [dTs, dTs_map ts]; rfl
theorem txs_map : ∀ ts : List T, txs ts = ts.map tx
  | [] => by rw [txs]; rfl
  | t :: ts => by rw [txs, txs_map ts]; rfl
theorem hts_le {ts : List T} : ∀ {t : T}, t ∈ ts → ht t ≤ hts ts := by
  induction ts with
  | nil => intro t h; cases h
  | cons u us ih =>
    intro t h
    rw [hts]
    rcases List.mem_cons.mp h with rfl | h
    · exact Nat.le_max_left _ _
    · exact Nat.le_trans (ih h) (Nat.le_max_right _ _)
theorem okTs_mem {ts : List T} : ∀ {t : T}, okTs ts → t ∈ ts → okT t := by
  induction ts with
  | nil => intro t _ h; cases h
  | cons u us ih =>
    intro t o h
    rw [okTs] at o
    rcases List.mem_cons.mp h with rfl | h
    · exact o.1
    · exact ih o.2 h
mutual
theorem dT_cl : ∀ (t : T), clD 0 (dT t) = true
  | .node c ks => by
    rw [dT]
    simp only [clD, clDs, Bool.and_true, Bool.true_and]
    exact dTs_cl ks
theorem dTs_cl : ∀ (ts : List T), clDs 0 (dTs ts) = true
  | [] => by rw [dTs]; rfl
  | t :: ts => by rw [dTs, clDs, dT_cl t, dTs_cl ts]; rfl
end
theorem join_len (ts : List Tx) : (joinT [44] ts).length ≤ (ts.map List.length).sum + ts.length := by
  induction ts with
  | nil => simp [joinT]
  | cons x r ih =>
    cases r with
    | nil => simp [joinT]
    | cons y r =>
      rw [joinT]
      simp only [List.length_append, List.length_cons, List.length_nil, List.map_cons, List.sum_cons] at ih ⊢
      omega
mutual
theorem tx_len : ∀ (t : T), (tx t).length + 2 ≤ 4 * sz t
  | .node c ks => by
    rw [tx, sz]
    split
    · simp; omega
    · rename_i h
      have h1 := txs_len ks
      have h2 := join_len (txs ks)
      have h3 : (txs ks).length = ks.length := by rw [txs_map]; simp
      have h4 : 1 ≤ ks.length := by cases ks with
        | nil => simp at h
        | cons => simp
      simp only [List.length_cons, List.length_append, List.length_nil]
      omega
theorem txs_len : ∀ (ts : List T), ((txs ts).map List.length).sum + 2 * ts.length ≤ 4 * szs ts
  | [] => by rw [txs, szs]; simp
  | t :: ts => by
    have h1 := tx_len t
    have h2 := txs_len ts
    rw [txs, szs]
    simp only [List.map_cons, List.sum_cons, List.length_cons]
    omega
end
section
variable {F : Nat} {st : Sto}
theorem is_label_spec (k : Nat) {c : Nat} (hc : 97 ≤ c ∧ c ≤ 102) : pr.call F (k + 1) f_is_label [.str [c]] st = .ok (.bl true) st := by
  have hm : c ∈ [97, 98, 99, 100, 101, 102] := by
    simp only [List.mem_cons, List.not_mem_nil, or_false]; omega
  have e : ev (pr.cl F k) (.and (.isi (.var 0) .str) (.and (.cmp .eq (.bi .len (.var 0)) (.cst (.int 1))) (.cmp .mem (.var 0) (.gl g_LABELS)))) [some (.str [c])] st = .ok (.bl true) st := by
    apply e_andT
    · walk_at "ev"
    apply e_andT
    · walk_at "ev"
    apply e_cmp
    · exact e_var rfl
    · exact e_gl
    · show R.ok (D.bl (decide (c ∈ [97, 98, 99, 100, 101, 102]))) st = _
      rw [decide_eq_true hm]
  rw [c_rt (fi := ⟨1, 1, b_is_label⟩) rfl rfl (b_rt (s_ret e)), finish_same]
theorem is_node_spec (k : Nat) {t : T} (ht : okT t) : pr.call F (k + 2) f_is_node [dT t] st = .ok (.bl true) st := by
  cases t with
  | node c ks =>
    rw [okT] at ht
    obtain ⟨h1, h2, h3⟩ := ht
    have hl : (dTs ks).length = ks.length := by rw [dTs_map]; simp
    have e : ∃ ρ1, evSs (pr.cl F (k + 1)) F b_is_node [some (dT (.node c ks))] st = .ok (.rt (.bl true)) ρ1 st := by
      rw [dT]
      apply Exists.intro
      apply b_cons
      · apply s_iteF
        · apply e_orF
          · walk_at "ev"
          apply e_orF
          · walk_at "ev"
          apply e_not (k := true)
          apply e_call
          · walk_at "ev"
          exact is_label_spec (F := F) (st := st) k h1
        exact b_nil
      apply b_rt
      apply s_ret
      apply e_andT
      · walk_at "ev"
      apply e_cmp
      · walk_at "ev"
      · walk_at "ev"
      · show R.ok (D.bl (decide (((dTs ks).length : Int) ≤ 3))) st = _
        rw [decide_eq_true (by omega)]
    obtain ⟨ρ1, e⟩ := e
    rw [c_rt (fi := ⟨1, 1, b_is_node⟩) rfl rfl e, finish_same]
end
end Law
namespace Law
open Z
theorem isE_dTs (ks : List T) : (dTs ks).isEmpty = ks.isEmpty := by cases ks <;> simp [dTs]
theorem szs_mem {ts : List T} : ∀ {t : T}, t ∈ ts → sz t ≤ szs ts := by
  induction ts with
  | nil => intro t h; cases h
  | cons u us ih =>
    intro t h
    rw [szs]
    rcases List.mem_cons.mp h with rfl | h
    · omega
    · have := ih h; omega
theorem ht_pos (t : T) : 1 ≤ ht t := by cases t; rw [ht]; omega
theorem kids_str (ks : List T) : (ks.map fun t => D.str (tx t)) = (txs ks).map D.str := by rw [txs_map, List.map_map]; rfl
theorem kids_sum {ks : List T} : ((txs ks).map List.length).sum + (txs ks).length * 1 ≤ 4 * szs ks := by
  have h := txs_len ks
  have h3 : (txs ks).length = ks.length := by rw [txs_map]; simp
  omega
/-- the kids' texts, by a def that gives each its text -/
theorem kids_comp {F k f v : Nat} {ρ : Env} {c : Nat} {ks : List T} {st : Sto} (hv : v < ρ.length) (h0 : v ≠ 0) (hr : ρ[0]? = some (some (dT (.node c ks)))) (hs : szs ks ≤ 60)
    (ih : ∀ t ∈ ks, pr.call F k f [dT t] st = .ok (.str (tx t)) st) :
    ev (pr.cl F k) (.me1 .join (.cst (.str [44])) (.comp (.call f (.cons (.var v) .nil)) (.name v) [v] (.it (.ix (.var 0) (.cst (.int 1)))) .none)) ρ st
      = .ok (.str (joinT [44] (txs ks))) (st ++ [.lst ((txs ks).map D.str)]) := by
  apply e_me1
  · exact e_cst
  · rfl
  · apply e_comp (w := ⟨dTs ks, none⟩) (ys := (txs ks).map D.str)
    · apply e_it (x := .tup (dTs ks))
      · apply e_ix
        · exact e_var hr
        · exact e_cst
        · rw [dT]; exact d_ixT rfl
      · rfl
    · rw [dTs_map, ← kids_str]
      apply compL_map rfl
      intro t ht
      apply t_one
      · rfl
      apply e_call
      · apply e_cons
        · exact e_var (by simp [wipeE, hv]; rfl)
        · exact e_nil
      · exact ih t ht
    · have h3 : (txs ks).length = ks.length := by rw [txs_map]; simp
      have := txs_len ks
      simp only [List.length_map]
      unfold LIM; omega
  · apply d_join at_last
    have := kids_sum (ks := ks)
    simp only [List.length_cons, List.length_nil]
    unfold LIM; omega
theorem joinT_ne {x : Tx} {r : List Tx} (h : x ≠ []) : joinT [44] (x :: r) ≠ [] := by
  cases r with
  | nil => exact h
  | cons y r => rw [joinT]; simp [h]
theorem tx_ne (t : T) : tx t ≠ [] := by cases t; rw [tx]; split <;> simp
theorem law_text_spec (F : Nat) (k : Nat) : ∀ (t : T) (st : Sto), ht t ≤ k → sz t ≤ 60 → pr.call F k f_law_text [dT t] st = .ok (.str (tx t)) st := by
  induction k with
  | zero => intro t st h; have := ht_pos t; omega
  | succ k ih =>
    intro t st h hs
    cases t with
    | node c ks =>
      rw [ht] at h; rw [sz] at hs
      have hx : ev (pr.cl F k) (.ix (.var 0) (.cst (.int 0))) [some (dT (.node c ks)), none] st = .ok (.str [c]) st := by
        rw [dT]; walk_at "ev"
      have test : ev (pr.cl F k) (.cmp .eq (.ix (.var 0) (.cst (.int 1))) (.tup .nil)) [some (dT (.node c ks)), none] st = .ok (.bl ks.isEmpty) st := by
        rw [← isE_dTs]; rw [dT]; walk_at "ev"
      cases hE : ks.isEmpty with
      | true =>
        rw [hE] at test
        rw [c_rt (fi := ⟨1, 2, b_law_text⟩) rfl rfl (ds := [dT (.node c ks)]) (d := .str [c]) (s1 := st) (ρ1 := [some (dT (.node c ks)), none]), finish_same]
        · rw [tx, if_pos hE]
        · apply b_rt
          apply s_iteT test
          apply b_rt
          apply s_ret hx
      | false =>
        rw [hE] at test
        have e : ∃ ρ1, evSs (pr.cl F k) F b_law_text [some (dT (.node c ks)), none] st = .ok (.rt (.str (tx (.node c ks)))) ρ1 (st ++ [.lst ((txs ks).map D.str)]) := by
          apply Exists.intro
          apply b_cons
          · apply s_iteF test
            exact b_nil
          apply b_rt
          apply s_ret
          have hj := join_len (txs ks)
          have hq := kids_sum (ks := ks)
          rw [show tx (.node c ks) = [c] ++ [40] ++ joinT [44] (txs ks) ++ [41] by rw [tx, hE]; rfl]
          apply e_bin
          · apply e_bin
            · apply e_bin hx e_cst
              exact d_addS (by simp [LIM])
            · exact kids_comp (by simp) (by decide) rfl (by omega) fun t ht => ih t st (by have := hts_le ht; omega) (by have := szs_mem ht; omega)
            · exact d_addS (by simp only [List.length_append, List.length_cons, List.length_nil]; unfold LIM; omega)
          · exact e_cst
          · exact d_addS (by simp only [List.length_append, List.length_cons, List.length_nil]; unfold LIM; omega)
        obtain ⟨ρ1, e⟩ := e
        rw [c_rt (fi := ⟨1, 2, b_law_text⟩) rfl rfl e]
        exact finish_new _ _ _ rfl
theorem tree_text_spec (F : Nat) (k : Nat) : ∀ (t : T) (st : Sto), ht t ≤ k → sz t ≤ 60 → pr.call F k f_tree_text [dT t] st = .ok (.str (tx t)) st := by
  induction k with
  | zero => intro t st h; have := ht_pos t; omega
  | succ k ih =>
    intro t st h hs
    cases t with
    | node c ks =>
      rw [ht] at h; rw [sz] at hs
      have e : ∃ ρ1, evSs (pr.cl F k) F b_tree_text [some (dT (.node c ks)), none, none] st = .ok (.rt (.str (tx (.node c ks)))) ρ1 (st ++ [.lst ((txs ks).map D.str)]) := by
        apply Exists.intro
        apply b_cons
        · apply s_asg (kids_comp (c := c) (by simp) (by decide) rfl (by omega) fun t ht => ih t st (by have := hts_le ht; omega) (by have := szs_mem ht; omega))
          rfl
        apply b_rt
        apply s_ret
        have hj := join_len (txs ks)
        have hq := kids_sum (ks := ks)
        have test : ∀ (ρ : Env) (st : Sto), ρ[1]? = some (some (.str (joinT [44] (txs ks)))) → ev (pr.cl F k) (.cmp .ne (.var 1) (.cst (.str []))) ρ st = .ok (.bl (!ks.isEmpty)) st := fun ρ st hρ => by
          apply e_cmp (e_var hρ) e_cst
          apply d_ne
          show some (decide (joinT [44] (txs ks) = [])) = _
          cases ks with
          | nil => simp [txs, joinT]
          | cons t ts => rw [txs, decide_eq_false (joinT_ne (tx_ne t))]; rfl
        cases hE : ks.isEmpty with
        | true =>
          rw [hE] at test
          rw [show tx (.node c ks) = [c] ++ [] by rw [tx, if_pos hE]; rfl]
          apply e_bin
          · rw [dT]; walk_at "ev"
          · apply e_iteF
            · exact test _ _ rfl
            · exact e_cst
          · exact d_addS (by simp [LIM])
        | false =>
          rw [hE] at test
          rw [show tx (.node c ks) = [c] ++ ([40] ++ joinT [44] (txs ks) ++ [41]) by rw [tx, hE]; rfl]
          apply e_bin
          · rw [dT]; walk_at "ev"
          · apply e_iteT
            · exact test _ _ rfl
            · apply e_bin
              · apply e_bin
                · exact e_cst
                · exact e_var rfl
                · exact d_addS (by simp only [List.length_append, List.length_cons, List.length_nil]; unfold LIM; omega)
              · exact e_cst
              · exact d_addS (by simp only [List.length_append, List.length_cons, List.length_nil]; unfold LIM; omega)
          · exact d_addS (by simp only [List.length_append, List.length_cons, List.length_nil]; unfold LIM; omega)
      obtain ⟨ρ1, e⟩ := e
      rw [c_rt (fi := ⟨1, 3, b_tree_text⟩) rfl rfl e]
      exact finish_new _ _ _ rfl
end Law
namespace Z
section
variable {C : Cl} {F : Nat} {st : Sto} {ρ : Env} {z w : Int}
theorem d_gtF (h : ¬ w < z) : cmpD .gt (.int z) (.int w) st = .ok (.bl false) st := by show R.ok (D.bl (decide _)) st = _; rw [decide_eq_false h]
theorem d_gtT (h : w < z) : cmpD .gt (.int z) (.int w) st = .ok (.bl true) st := by show R.ok (D.bl (decide _)) st = _; rw [decide_eq_true h]
theorem d_geF (h : ¬ w ≤ z) : cmpD .ge (.int z) (.int w) st = .ok (.bl false) st := by show R.ok (D.bl (decide _)) st = _; rw [decide_eq_false h]
theorem d_geT (h : w ≤ z) : cmpD .ge (.int z) (.int w) st = .ok (.bl true) st := by show R.ok (D.bl (decide _)) st = _; rw [decide_eq_true h]
theorem d_ltF (h : ¬ z < w) : cmpD .lt (.int z) (.int w) st = .ok (.bl false) st := by show R.ok (D.bl (decide _)) st = _; rw [decide_eq_false h]
theorem d_ltT (h : z < w) : cmpD .lt (.int z) (.int w) st = .ok (.bl true) st := by show R.ok (D.bl (decide _)) st = _; rw [decide_eq_true h]
theorem d_leF (h : ¬ z ≤ w) : cmpD .le (.int z) (.int w) st = .ok (.bl false) st := by show R.ok (D.bl (decide _)) st = _; rw [decide_eq_false h]
theorem d_leT (h : z ≤ w) : cmpD .le (.int z) (.int w) st = .ok (.bl true) st := by show R.ok (D.bl (decide _)) st = _; rw [decide_eq_true h]
theorem d_gt : cmpD .gt (.int z) (.int w) st = .ok (.bl (decide (w < z))) st := rfl
theorem d_memT {c : Nat} {y : Tx} (h : c ∈ y) : cmpD .mem (.str [c]) (.str y) st = .ok (.bl true) st := by show R.ok (D.bl (decide _)) st = _; rw [decide_eq_true h]
theorem d_nmemF {c : Nat} {y : Tx} (h : c ∈ y) : cmpD .nmem (.str [c]) (.str y) st = .ok (.bl false) st := by show R.ok (D.bl (!decide _)) st = _; rw [decide_eq_true h]; rfl
theorem w_stop {c : IE} {b : ISs} {n : Nat} {s1 : Sto} (h : ev C c ρ st = .ok (.bl false) s1) : loopW (evT C c) (evSs C F b) (n + 1) ρ st = .ok .nx ρ s1 := by
  unfold loopW; rw [evT, h, R_bind_ok, bOf_bl, R_sbind_ok, if_neg Bool.false_ne_true]
theorem w_turn {c : IE} {b : ISs} {n : Nat} {s1 s2 : Sto} {ρ1 : Env} {res : SR} (h : ev C c ρ st = .ok (.bl true) s1) (hb : evSs C F b ρ s1 = .ok .nx ρ1 s2)
    (hr : loopW (evT C c) (evSs C F b) n ρ1 s2 = res) : loopW (evT C c) (evSs C F b) (n + 1) ρ st = res := by
  unfold loopW; rw [evT, h, R_bind_ok, bOf_bl, R_sbind_ok, if_pos rfl, hb, SR_turn_nx, hr]
theorem s_whl {c : IE} {b : ISs} {res : SR} (h : loopW (evT C c) (evSs C F b) F ρ st = res) : evS C F (.whl c b) ρ st = res := by rw [evS, h]
/-- a walk's turns -/
theorem loop_fix {α : Type} {w : Wk} {t : IT} {b : Env → Sto → SR} (l : List α) (u : α → D) (P : Nat → Env → Sto → Prop)
    (hs : ∀ i ρ st, P i ρ st → w.stays st = true)
    (hstep : ∀ i a ρ st, l[i]? = some a → P i ρ st → ∃ ρ1 ρ2 st2, asgT ρ t (u a) = some ρ1 ∧ b ρ1 st = .ok .nx ρ2 st2 ∧ P (i + 1) ρ2 st2) :
    ∀ (n j : Nat) (ρ : Env) (st : Sto), j + n = l.length → P j ρ st → ∃ ρ' st', loopF w t b ((l.drop j).map u) ρ st = .ok .nx ρ' st' ∧ P l.length ρ' st' := by
  intro n
  induction n with
  | zero =>
    intro j ρ st h hp
    rw [List.drop_eq_nil_of_le (by omega)]
    refine ⟨ρ, st, ?_, by rwa [show l.length = j by omega]⟩
    rw [List.map_nil]; unfold loopF; rw [if_pos (hs _ _ _ hp)]
  | succ n ih =>
    intro j ρ st h hp
    have hj : j < l.length := by omega
    rw [List.drop_eq_getElem_cons hj, List.map_cons]
    obtain ⟨ρ1, ρ2, st2, h1, h2, h3⟩ := hstep j l[j] ρ st (List.getElem?_eq_getElem hj) hp
    obtain ⟨ρ', st', h4, h5⟩ := ih (j + 1) ρ2 st2 (by omega) h3
    refine ⟨ρ', st', ?_, h5⟩
    unfold loopF
    rw [if_pos (hs _ _ _ hp)]
    simp only [h1]
    rw [h2, SR_turn_nx, h4]
theorem loop_rng {t : IT} {b : Env → Sto → SR} (n : Nat) (P : Nat → Env → Sto → Prop)
    (hstep : ∀ i ρ st, i < n → P i ρ st → ∃ ρ1 ρ2 st2, asgT ρ t (.int (0 + (i : Int))) = some ρ1 ∧ b ρ1 st = .ok .nx ρ2 st2 ∧ P (i + 1) ρ2 st2) {ρ : Env} {st : Sto} (hp : P 0 ρ st) :
    ∃ ρ' st', loopF (rngW 0 n) t b (rngW 0 n).xs ρ st = .ok .nx ρ' st' ∧ P n ρ' st' := by
  have := loop_fix (w := rngW 0 n) (t := t) (b := b) (List.range n) (fun k : Nat => D.int (0 + (k : Int))) P (fun _ _ _ _ => rfl) (fun i a ρ st ha hp => by
    have h1 := List.getElem?_eq_some_iff.mp ha
    obtain ⟨h2, h3⟩ := h1
    rw [List.getElem_range] at h3
    subst h3
    exact hstep _ ρ st (by simpa using h2) hp) n 0 ρ st (by simp) hp
  rw [List.drop_zero, List.length_range] at this
  exact this
end
/-- the end of a call that changed one thing -/
theorem finish_set {st st1 : Sto} {d : D} {o : Nat} {c : Cell} (h : clD 0 d = true) (k : Keep [o] st st1) (ho : o < st.length) (hc : st1[o]? = some c) (hcl : clC st.length c = true) : finish st (.ok d st1) = .ok d (st.set o c) := by
  obtain ⟨st', e, k', l, at_⟩ := finish_keep (S := [o]) h k (fun i hi => by
    simp only [List.mem_cons, List.not_mem_nil, or_false] at hi
    subst hi; exact ⟨c, hc, hcl⟩)
  rw [e]
  congr 1
  refine List.ext_getElem? fun i => ?_
  by_cases hi : i < st.length
  · by_cases hio : i = o
    · subst hio; rw [at_ i hi, hc, List.getElem?_set_self hi]
    · rw [k'.at_ i hi (by simpa using hio), List.getElem?_set_ne (Ne.symm hio)]
  · rw [List.getElem?_eq_none (by omega), List.getElem?_eq_none (by simp; omega)]
/-! data without things -/
mutual
def purD : D → Bool
  | .loc _ => false
  | .fl _ => false
  | .tup xs => purDs xs
  | _ => true
def purDs : List D → Bool
  | [] => true
  | x :: xs => purD x && purDs xs
end
mutual
def depD : D → Nat
  | .tup xs => 1 + depDs xs
  | _ => 1
def depDs : List D → Nat
  | [] => 0
  | x :: xs => max (depD x) (depDs xs)
end
theorem purDs_mem {ts : List D} : ∀ {t : D}, purDs ts = true → t ∈ ts → purD t = true := by
  induction ts with
  | nil => intro t _ h; cases h
  | cons u us ih =>
    intro t o h
    rw [purDs, Bool.and_eq_true] at o
    rcases List.mem_cons.mp h with rfl | h
    · exact o.1
    · exact ih o.2 h
theorem depDs_mem {ts : List D} : ∀ {t : D}, t ∈ ts → depD t ≤ depDs ts := by
  induction ts with
  | nil => intro t h; cases h
  | cons u us ih =>
    intro t h
    rw [depDs]
    rcases List.mem_cons.mp h with rfl | h
    · exact Nat.le_max_left _ _
    · exact Nat.le_trans (ih h) (Nat.le_max_right _ _)
theorem depD_pos (d : D) : 1 ≤ depD d := by cases d <;> simp [depD]
mutual
def sizD : D → Nat
  | .tup xs => 1 + sizDs xs
  | _ => 1
def sizDs : List D → Nat
  | [] => 0
  | x :: xs => 1 + sizD x + sizDs xs
end
end Z
namespace Law
open Z
theorem alike_spec (F k : Nat) : ∀ (d : D) (st : Sto), depD d ≤ k → purD d = true → sizD d ≤ 1000000 → pr.call F k f_law_alike [d, d] st = .ok (.bl true) st := by
  induction k with
  | zero => intro d st h; have := depD_pos d; omega
  | succ k ih =>
    intro d st hd hp hz
    have close : ∀ {ρ1}, evSs (pr.cl F k) F b_law_alike [some d, some d, none] st = .ok (.rt (.bl true)) ρ1 st → pr.call F (k + 1) f_law_alike [d, d] st = .ok (.bl true) st := fun e => by
      rw [c_rt (fi := ⟨2, 3, b_law_alike⟩) rfl rfl e, finish_same]
    cases d with
    | loc n => simp [purD] at hp
    | fl xs => simp [purD] at hp
    | non => exact close (by apply b_rt; apply s_ifT (by walk_at "ev") rfl; apply b_rt; apply s_ret; walk_at "ev")
    | bl b =>
      exact close (by
        apply b_cons
        · apply s_ifF (by walk_at "ev") rfl b_nil
        apply b_rt
        apply s_ifT (by walk_at "ev") rfl
        apply b_rt; apply s_ret
        apply e_andT (by walk_at "ev")
        apply e_cmp (by walk_at "ev") (by walk_at "ev")
        exact d_eq (by simp [eqD]))
    | int b =>
      exact close (by
        apply b_cons
        · apply s_ifF (by walk_at "ev") rfl b_nil
        apply b_cons
        · apply s_ifF (by walk_at "ev") rfl b_nil
        apply b_rt
        apply s_ifT (by walk_at "ev") rfl
        apply b_rt; apply s_ret
        apply e_andT (by walk_at "ev")
        apply e_andT (by walk_at "ev")
        apply e_cmp (by walk_at "ev") (by walk_at "ev")
        exact d_eq (by simp [eqD]))
    | str b =>
      exact close (by
        apply b_cons
        · apply s_ifF (by walk_at "ev") rfl b_nil
        apply b_cons
        · apply s_ifF (by walk_at "ev") rfl b_nil
        apply b_cons
        · apply s_ifF (by walk_at "ev") rfl b_nil
        apply b_rt
        apply s_ifT (by walk_at "ev") rfl
        apply b_rt; apply s_ret
        apply e_andT (by walk_at "ev")
        apply e_cmp (by walk_at "ev") (by walk_at "ev")
        exact d_eq (by simp [eqD]))
    | tup xs =>
      have hl : xs.length ≤ sizDs xs := by
        clear hd hp hz close
        induction xs with
        | nil => exact Nat.zero_le _
        | cons x xs ih => rw [sizDs]; simp only [List.length_cons]; omega
      have hzm : ∀ x ∈ xs, sizD x ≤ sizDs xs := by
        clear hd hp hz close hl
        induction xs with
        | nil => intro x h; cases h
        | cons y ys ih =>
          intro x h
          rw [sizDs]
          rcases List.mem_cons.mp h with rfl | h
          · omega
          · have := ih x h; omega
      rw [sizD] at hz; rw [depD] at hd; rw [purD] at hp
      obtain ⟨ρ', st', e1, e2, e3⟩ := loop_rng (t := .name 2) (b := evSs (pr.cl F k) F (.cons (.ite (.not (.call f_law_alike (.cons (.ix (.var 0) (.var 2)) (.cons (.ix (.var 1) (.var 2)) .nil)))) (.cons (.ret (.cst (.bl false))) .nil) .nil) .nil)) xs.length
        (fun _ ρ s => s = st ∧ ∃ v, ρ = [some (.tup xs), some (.tup xs), v])
        (by
          intro i ρ s hi hq
          obtain ⟨rfl, v, rfl⟩ := hq
          have hx : L2.atI xs (0 + (i : Int)) = some xs[i] := by rw [Int.zero_add]; exact atI_nat (List.getElem?_eq_getElem hi)
          refine ⟨_, [some (.tup xs), some (.tup xs), some (.int (0 + (i : Int)))], s, rfl, ?_, rfl, _, rfl⟩
          apply b_cons
          · apply s_ifF
            · apply e_not
              apply e_call
              · apply e_cons
                · apply e_ix (e_var rfl) (e_var rfl) (d_ixT hx)
                apply e_cons
                · apply e_ix (e_var rfl) (e_var rfl) (d_ixT hx)
                exact e_nil
              · exact ih xs[i] s (by have := depDs_mem (List.getElem_mem hi); omega) (purDs_mem hp (List.getElem_mem hi)) (by have := hzm _ (List.getElem_mem hi); omega)
            · rfl
            · exact b_nil
          exact b_nil)
        (ρ := [some (.tup xs), some (.tup xs), none]) (st := st) ⟨rfl, none, rfl⟩
      obtain ⟨v, rfl⟩ := e3
      subst e2
      exact close (by
        apply b_cons
        · apply s_ifF (by walk_at "ev") rfl b_nil
        apply b_cons
        · apply s_ifF (by walk_at "ev") rfl b_nil
        apply b_cons
        · apply s_ifF (by walk_at "ev") rfl b_nil
        apply b_cons
        · apply s_ifF (by walk_at "ev") rfl b_nil
        apply b_cons
        · apply s_ifF
          · apply e_orF (by walk_at "ev")
            walk_at "ev"
          · rfl
          · exact b_nil
        apply b_cons
        · apply s_ifF
          · apply e_cmp (by walk_at "ev") (by walk_at "ev")
            exact d_ne (by simp [eqD]; rfl)
          · rfl
          · exact b_nil
        apply b_cons
        · apply s_for (e_rng1 (n := (xs.length : Int)) (by walk_at "ev") (by unfold iLim; omega)) (by rw [Int.toNat_natCast]; exact e1)
        apply b_rt
        exact s_ret e_cst)
end Law
namespace Law
open Z
/-- a place yet to be looked at -/
def item (q : List Int × T) : D := .tup [.tup (q.1.map D.int), dT q.2]
def szq : List (List Int × T) → Nat
  | [] => 0
  | q :: r => sz q.2 + szq r
theorem szq_app (a b : List (List Int × T)) : szq (a ++ b) = szq a + szq b := by
  induction a with
  | nil => simp [szq]
  | cons x a ih => rw [List.cons_append, szq, szq, ih]; omega
theorem sz_pos (t : T) : 1 ≤ sz t := by cases t; rw [sz]; omega
theorem szq_len (a : List (List Int × T)) : a.length ≤ szq a := by
  induction a with
  | nil => simp [szq]
  | cons x a ih => rw [szq, List.length_cons]; have := sz_pos x.2; omega
def kidsq (p : List Int) (ks : List T) : List (List Int × T) := (List.range ks.length).map fun (k : Nat) => (p ++ [(k : Int)], ks.getD k (.node 0 []))
theorem range_get (ks : List T) : (List.range ks.length).map (fun k => ks.getD k (.node 0 [])) = ks := by
  refine List.ext_getElem (by simp) fun i h1 h2 => ?_
  rw [List.getElem_map, List.getElem_range, List.getD_eq_getElem?_getD, List.getElem?_eq_getElem h2]; rfl
theorem szq_sum (a : List (List Int × T)) : szq a = szs (a.map (·.2)) := by
  induction a with
  | nil => simp [szq, szs]
  | cons x a ih => rw [szq, List.map_cons, szs, ih]
theorem kidsq_sz (p : List Int) (ks : List T) : szq (kidsq p ks) = szs ks := by
  rw [szq_sum, kidsq, List.map_map]
  congr 1
  exact range_get ks
theorem kidsq_mem {p : List Int} {ks : List T} {q : List Int × T} (h : q ∈ kidsq p ks) : q.2 ∈ ks ∧ q.1.length = p.length + 1 := by
  unfold kidsq at h
  obtain ⟨k, h1, rfl⟩ := List.mem_map.mp h
  rw [List.mem_range] at h1
  refine ⟨?_, by simp⟩
  simp only [List.getD_eq_getElem?_getD, List.getElem?_eq_getElem h1]
  exact List.getElem_mem h1
abbrev nt_test : IE := .cmp .ne (.var 1) (.lst .nil)
abbrev nt_body : ISs := (.cons (.asg (.tup [4, 5]) (.me0 .pop (.var 1))) (.cons (.asg (.name 2) (.bin .add (.var 2) (.cst (.int 1)))) (.cons (.ite (.or (.cmp .gt (.var 2) (.gl g_MOST_PLACES)) (.or (.cmp .ge (.bi .len (.var 4)) (.gl g_MOST_DEEP)) (.not (.call f_is_node (.cons (.var 5) .nil))))) (.cons .never .nil) .nil) (.cons (.asg (.name 3) (.comp (.tup (.cons (.bin .add (.var 4) (.tup (.cons (.var 6) .nil))) (.cons (.ix (.ix (.var 5) (.cst (.int 1))) (.var 6)) .nil))) (.name 6) [6] (.rng1 (.bi .len (.ix (.var 5) (.cst (.int 1))))) .none)) (.cons (.expr (.me1 .extend (.var 1) (.rev (.var 3)))) .nil)))))
theorem need_loop {F k : Nat} (t0 : D) (st0 : Sto) (n1 : Nat) (hn : st0.length ≤ n1) : ∀ (fuel : Nat) (q : List (List Int × T)) (many : Int) (v3 v4 v5 : Option D) (st : Sto),
    szq q < fuel → 0 ≤ many → many + szq q ≤ 60 → (∀ x ∈ q, okT x.2 ∧ x.1.length + ht x.2 ≤ 12) → Keep [] st0 st → st[n1]? = some (.lst (q.map item).reverse) →
    ∃ ρ' st', loopW (evT (pr.cl F (k + 2)) nt_test) (evSs (pr.cl F (k + 2)) F nt_body) fuel [some t0, some (.loc n1), some (.int many), v3, v4, v5, none] st = .ok .nx ρ' st' ∧ Keep [] st0 st' := by
  intro fuel
  induction fuel with
  | zero => intro q many v3 v4 v5 st h; omega
  | succ fuel ih =>
    intro q many v3 v4 v5 st hf hm0 hm hq kp hat
    have test : ev (pr.cl F (k + 2)) nt_test [some t0, some (.loc n1), some (.int many), v3, v4, v5, none] st = .ok (.bl (!q.isEmpty)) (st ++ [.lst []]) := by
      apply e_cmp (e_var rfl)
      · apply e_lst e_nil (by simp)
      · apply d_ne
        rw [show q.isEmpty = (q.map item).reverse.isEmpty by cases q <;> simp]
        exact d_eqL (app_at _ hat) at_last
    cases q with
    | nil => exact ⟨_, _, w_stop test, kp.appN _⟩
    | cons x q =>
      obtain ⟨p, t⟩ := x
      cases t with
      | node c ks =>
        obtain ⟨hok, hht⟩ := hq _ List.mem_cons_self
        have hok0 := hok
        have hs1 : szq ((p, T.node c ks) :: q) = 1 + szs ks + szq q := by rw [szq]; simp only; rw [sz]
        rw [hs1] at hf hm
        rw [okT] at hok
        obtain ⟨hc, hk3, hoks⟩ := hok
        have hht' : p.length + (1 + hts ks) ≤ 12 := by rw [← ht.eq_1]; exact hht
        -- the store's way
        let sA : Sto := st ++ [.lst []]
        let sB : Sto := sA.set n1 (.lst (q.map item).reverse)
        have aA : sA[n1]? = some (.lst (((p, T.node c ks) :: q).map item).reverse) := app_at _ hat
        have aB : sB[n1]? = some (.lst (q.map item).reverse) := set_here aA
        let sC : Sto := sB ++ [.lst ((kidsq p ks).map item)]
        let sD : Sto := sC ++ [.lst ((kidsq p ks).map item).reverse]
        let sE : Sto := sD.set n1 (.lst ((kidsq p ks ++ q).map item).reverse)
        have aC : sC[n1]? = some (.lst (q.map item).reverse) := app_at _ aB
        have aD : sD[n1]? = some (.lst (q.map item).reverse) := app_at _ aC
        have hlen := szq_len q
        have hkl : (kidsq p ks).length = ks.length := by simp [kidsq]
        have hb : evSs (pr.cl F (k + 2)) F nt_body [some t0, some (.loc n1), some (.int many), v3, v4, v5, none] (st ++ [.lst []]) = .ok .nx [some t0, some (.loc n1), some (.int (many + 1)), some (.loc sB.length), some (.tup (p.map D.int)), some (dT (.node c ks)), none] sE := by
          apply b_cons
          · apply s_asg
            · apply e_me0 (e_var rfl)
              · exact r_lst aA (by decide)
              · apply d_pop (y := item (p, T.node c ks)) aA
                rw [List.map_cons, List.reverse_cons, List.getLast?_append]; rfl
            · rfl
          rw [show (((p, T.node c ks) :: q).map item).reverse.dropLast = (q.map item).reverse by rw [List.map_cons, List.reverse_cons, List.dropLast_concat]]
          apply b_cons
          · apply s_asg (x := .int (many + 1)) (e_bin (e_var rfl) e_cst rfl)
            rfl
          apply b_cons
          · apply s_iteF
            · apply e_orF (e_cmp (e_var rfl) e_gl (d_gtF (by omega)))
              apply e_orF
              · apply e_cmp (e_bi (e_var rfl) (d := .int ((p.map D.int).length : Int)) rfl) e_gl
                exact d_geF (by simp only [List.length_map]; omega)
              · apply e_not (k := true)
                apply e_call (e_cons (e_var rfl) e_nil)
                exact is_node_spec k hok0
            · exact b_nil
          apply b_cons
          · apply s_asg (x := .loc sB.length) (s1 := sC)
            · apply e_comp (w := rngW 0 ks.length) (s1 := sB) (s2 := sB) (ys := (kidsq p ks).map item)
              · have hl : (dTs ks).length = ks.length := by rw [dTs_map]; simp
                have : evI (pr.cl F (k + 2)) (.rng1 (.bi .len (.ix (.var 5) (.cst (.int 1))))) [some t0, some (.loc n1), some (.int (many + 1)), v3, some (.tup (p.map D.int)), some (dT (.node c ks)), none] sB = .ok (rngW 0 ((ks.length : Int)).toNat) sB := by
                  apply e_rng1
                  · rw [dT, ← hl]
                    walk_at "ev"
                  · unfold iLim; omega
                rw [Int.toNat_natCast] at this
                exact this
              · unfold kidsq
                rw [List.map_map]
                refine compL_map (w := rngW 0 ks.length) rfl _ ?_
                intro i hi
                rw [List.mem_range] at hi
                apply t_one
                · rfl
                apply e_tup
                · apply e_cons
                  · apply e_bin (x := .tup (p.map D.int)) (y := .tup [.int (0 + (i : Int))])
                    · exact e_var rfl
                    · exact e_tup (ds := [.int (0 + (i : Int))]) (e_cons (e_var rfl) e_nil) (by simp)
                    · rw [show ((fun (k : Nat) => (p ++ [(k : Int)], ks.getD k (T.node 0 []))) i).1.map D.int = p.map D.int ++ [D.int (0 + (i : Int))] by simp]
                      refine d_addT ?_
                      simp only [List.length_map, List.length_cons, List.length_nil]; unfold LIM; omega
                  apply e_cons
                  · apply e_ix (x := .tup (dTs ks))
                    · apply e_ix
                      · exact e_var rfl
                      · exact e_cst
                      · rw [dT]; exact d_ixT rfl
                    · exact e_var rfl
                    · apply d_ixT (d := dT (ks.getD i (.node 0 [])))
                      rw [Int.zero_add]
                      apply atI_nat
                      rw [dTs_map, List.getElem?_map, List.getD_eq_getElem?_getD, List.getElem?_eq_getElem hi]; rfl
                  · exact e_nil
                · simp
              · rw [List.length_map, hkl]; unfold LIM; omega
            · rfl
          apply b_cons (s1 := sE)
          · apply s_expr (x := .non)
            apply e_me1 (x := .loc n1) (e_var rfl)
            · exact r_lst aC (by decide)
            · exact e_rev (e_var rfl) (d_revL at_last)
            · rw [show sE = sD.set n1 (.lst ((q.map item).reverse ++ ((kidsq p ks).map item).reverse)) by show sD.set _ _ = _; rw [List.map_append, List.reverse_append]]
              refine d_ext aD at_last ?_
              simp only [List.length_reverse, List.length_map]; unfold LIM; omega
          exact b_nil
        have kE : Keep [] st0 sE := by
          show Keep [] st0 (sD.set n1 _)
          apply Keep.setN _ hn
          exact ((Keep.setN (kp.appN _) hn).appN _).appN _
        obtain ⟨ρ', st', h1, h2⟩ := ih (kidsq p ks ++ q) (many + 1) (some (.loc sB.length)) (some (.tup (p.map D.int))) (some (dT (.node c ks))) sE
          (by rw [szq_app, kidsq_sz]; omega) (by omega) (by rw [szq_app, kidsq_sz]; omega)
          (by
            intro x hx
            rcases List.mem_append.mp hx with hx | hx
            · have h := kidsq_mem hx
              exact ⟨okTs_mem hoks h.1, by have := hts_le h.1; omega⟩
            · exact hq _ (List.mem_cons_of_mem _ hx)) kE (set_here aD)
        exact ⟨ρ', st', w_turn test hb h1, h2⟩
theorem need_spec (F k : Nat) {t : T} {st : Sto} (hF : 61 < F) (ok : okT t) (hs : sz t ≤ 60) (hd : ht t ≤ 12) : pr.call F (k + 3) f_need_tree [dT t] st = .ok .non st := by
  have q1 : szq [([], t)] = sz t := by simp [szq]
  obtain ⟨ρ', st', h1, h2⟩ := need_loop (F := F) (k := k) (dT t) st st.length (Nat.le_refl _) F [([], t)] 0 none none none (st ++ [.lst [item ([], t)]]) (by omega) (by omega) (by omega)
    (by
      intro x hx
      simp only [List.mem_cons, List.not_mem_nil, or_false] at hx
      subst hx; exact ⟨ok, by simpa using hd⟩) (Keep.app _ _ _) at_last
  have e : evSs (pr.cl F (k + 2)) F b_need_tree [some (dT t), none, none, none, none, none, none] st = .ok .nx ρ' st' := by
    apply b_cons
    · apply s_asg (x := .loc st.length) (s1 := st ++ [.lst [item ([], t)]])
      · apply e_lst
        · apply e_cons
          · apply e_tup
            · apply e_cons
              · apply e_tup e_nil (by simp)
              apply e_cons (e_var rfl) e_nil
            · simp
          · exact e_nil
        · simp
      · rfl
    apply b_cons
    · apply s_asg e_cst rfl
    apply b_cons
    · exact s_whl h1
    exact b_nil
  rw [c_nx (fi := ⟨1, 7, b_need_tree⟩) rfl rfl e]
  exact finish_pure rfl h2
end Law
namespace Law
open Z
abbrev TREE : Tx := [116, 114, 101, 101]
def sg (X : Tx) (i : Nat) (kd : Tx) : Cell := .ins 0 [(n_text, .str X), (n_at, .int i), (n_kind, .str kd)]
section
variable {a b c d : D}
theorem lk_text : List.lookup n_text [(n_text, a), (n_at, b), (n_kind, c)] = some a := rfl
theorem lk_at : List.lookup n_at [(n_text, a), (n_at, b), (n_kind, c)] = some b := rfl
theorem lk_kind : List.lookup n_kind [(n_text, a), (n_at, b), (n_kind, c)] = some c := rfl
theorem pf_at : putF' n_at d [(n_text, a), (n_at, b), (n_kind, c)] = [(n_text, a), (n_at, d), (n_kind, c)] := by simp [putF']
variable {X kd : Tx} {i o : Nat} {st : Sto}
theorem d_text (h : st[o]? = some (sg X i kd)) : fldD (.loc o) n_text st = .ok (.str X) st := d_fld h lk_text
theorem d_at (h : st[o]? = some (sg X i kd)) : fldD (.loc o) n_at st = .ok (.int i) st := d_fld h lk_at
theorem d_kind (h : st[o]? = some (sg X i kd)) : fldD (.loc o) n_kind st = .ok (.str kd) st := d_fld h lk_kind
theorem sg_cl (n : Nat) : clC n (sg X i kd) = true := rfl
theorem cut_here : cutD X (some (i : Int)) (some ((i : Int) + 1)) = (X.drop i).take 1 := by
  unfold cutD
  rw [show ((i : Int) + 1) = ((i + 1 : Nat) : Int) by omega, HT.sIx_nat, HT.sIx_nat]
  by_cases h : i < X.length
  · rw [Nat.min_eq_left (by omega), Nat.min_eq_left (by omega)]
    congr 1; omega
  · rw [List.drop_eq_nil_of_le (by omega), List.drop_eq_nil_of_le (by omega)]; simp
theorem here_spec (F k : Nat) (hX : X.length ≤ LIM) (h : st[o]? = some (sg X i kd)) : pr.call F (k + 1) f_Signs_here [.loc o] st = .ok (.str ((X.drop i).take 1)) st := by
  have e : evSs (pr.cl F k) F b_Signs_here [some (.loc o)] st = .ok (.rt (.str ((X.drop i).take 1))) [some (.loc o)] st := by
    apply b_rt; apply s_ret
    rw [← cut_here]
    apply e_sl (x := .str X) (l := some (i : Int)) (h := some ((i : Int) + 1)) (s1 := st) (s2 := st) (s3 := st)
    · apply e_fld (x := .loc o) (s1 := st)
      · exact e_var rfl
      · exact d_text h
    · apply e_os
      apply e_fld (x := .loc o) (s1 := st)
      · exact e_var rfl
      · exact d_at h
    · apply e_os
      apply e_bin
      · apply e_fld (x := .loc o) (s1 := st)
        · exact e_var rfl
        · exact d_at h
      · exact e_cst
      · rfl
    · exact d_slS hX
  rw [c_rt (fi := ⟨1, 1, b_Signs_here⟩) rfl rfl e, finish_same]
/-- the step of at -/
theorem at_step {C : Cl} {F : Nat} {ρ : Env} (hr : ρ[0]? = some (some (.loc o))) (h : st[o]? = some (sg X i kd)) :
    evS C F (.setf (.var 0) n_at (.bin .add (.fld (.var 0) n_at) (.cst (.int 1)))) ρ st = .ok .nx ρ (st.set o (sg X (i + 1) kd)) := by
  have := s_setf (C := C) (F := F) (ρ := ρ) (st := st) (s1 := st) (s2 := st) (a := .var 0) (b := .bin .add (.fld (.var 0) n_at) (.cst (.int 1))) (f := n_at) (y := .int ((i + 1 : Nat) : Int)) (n := o) (cn := 0) (fs := [(n_text, .str X), (n_at, .int i), (n_kind, .str kd)])
    (by
      apply e_bin
      · apply e_fld
        · exact e_var hr
        · exact d_at h
      · exact e_cst
      · rfl) (e_var hr) h (by simp)
  rw [pf_at] at this
  exact this
theorem sigtake_spec (F k : Nat) (hX : X.length ≤ LIM) (h : st[o]? = some (sg X i kd)) {c : Nat} {r signs : Tx} (hd : X.drop i = c :: r) (hm : c ∈ signs) :
    pr.call F (k + 2) f_Signs_take [.loc o, .str signs] st = .ok (.str [c]) (st.set o (sg X (i + 1) kd)) := by
  have hh : pr.call F (k + 1) f_Signs_here [.loc o] st = .ok (.str [c]) st := by rw [here_spec F k hX h, hd]; rfl
  have e : ∃ ρ1, evSs (pr.cl F (k + 1)) F b_Signs_take [some (.loc o), some (.str signs), none] st = .ok (.rt (.str [c])) ρ1 (st.set o (sg X (i + 1) kd)) := by
    apply Exists.intro
    apply b_cons
    · apply s_asg
      · apply e_om (n := o)
        · exact e_var rfl
        · exact h
        · rfl
        · rfl
        · exact e_nil
        · exact hh
      · rfl
    apply b_cons
    · apply s_iteF
      · apply e_orF
        · apply e_cmp
          · exact e_var rfl
          · exact e_cst
          · exact d_eq rfl
        · apply e_cmp
          · exact e_var rfl
          · exact e_var rfl
          · exact d_nmemF hm
      · exact b_nil
    apply b_cons
    · exact at_step rfl h
    apply b_rt
    apply s_ret
    exact e_var rfl
  obtain ⟨ρ1, e⟩ := e
  rw [c_rt (fi := ⟨2, 3, b_Signs_take⟩) rfl rfl e]
  exact finish_set rfl (Keep.set (by simp)) (lt_of_at h) (set_here h) (sg_cl _)
end
def sepsT : List T → Tx
  | [] => []
  | t :: ts => 44 :: (tx t ++ sepsT ts)
theorem join_seps (t : T) (ts : List T) : joinT [44] (txs (t :: ts)) = tx t ++ sepsT ts := by
  induction ts generalizing t with
  | nil => simp [txs, joinT, sepsT]
  | cons u us ih =>
    rw [txs, txs, joinT, ← txs, ih u, sepsT]
    simp
theorem tx_head (t : T) (h : okT t) : ∃ c r, tx t = c :: r ∧ c ∈ [97, 98, 99, 100, 101, 102] := by
  cases t with
  | node c ks =>
    rw [okT] at h
    have hm : c ∈ [97, 98, 99, 100, 101, 102] := by
      simp only [List.mem_cons, List.not_mem_nil, or_false]; omega
    rw [tx]; split
    · exact ⟨c, [], rfl, hm⟩
    · exact ⟨c, _, rfl, hm⟩
theorem dTs_app (a b : List T) : dTs (a ++ b) = dTs a ++ dTs b := by rw [dTs_map, dTs_map, dTs_map, List.map_append]
theorem drop_add' {X u v : Tx} {i : Nat} (h : X.drop i = u ++ v) : X.drop (i + u.length) = v := by
  rw [← List.drop_drop, h, List.drop_left' rfl]
abbrev pt_test : IE := .cmp .eq (.om n_take m_take (.var 0) (.cons (.cst (.str [44, 41])) .nil)) (.cst (.str [44]))
abbrev pt_body : ISs := .cons (.expr (.me1 .append (.var 2) (.om n_part m_part (.var 0) .nil))) .nil
theorem part_loop {F k : Nat} {X : Tx} (hX : X.length ≤ LIM) {o m : Nat} {lab : D} {st0 : Sto} (hm : st0.length ≤ m) (ho : o < st0.length) {rest : Tx}
    (ih : ∀ (t : T) (st : Sto) (i : Nat) (rest : Tx), ht t ≤ k → okT t → st[o]? = some (sg X i TREE) → X.drop i = tx t ++ rest → (∀ r, rest ≠ 40 :: r) → pr.call F (k + 3) f_Signs_part [.loc o] st = .ok (dT t) (st.set o (sg X (i + (tx t).length) TREE))) :
    ∀ (fuel : Nat) (ts done : List T) (i : Nat) (st : Sto), ts.length < fuel → (∀ t ∈ ts, ht t ≤ k ∧ okT t) → done.length + ts.length ≤ 1000 → st[o]? = some (sg X i TREE) → st[m]? = some (.lst (dTs done)) →
      X.drop i = sepsT ts ++ 41 :: rest → Keep [o] st0 st →
      ∃ st', loopW (evT (pr.cl F (k + 3)) pt_test) (evSs (pr.cl F (k + 3)) F pt_body) fuel [some (.loc o), some lab, some (.loc m)] st = .ok .nx [some (.loc o), some lab, some (.loc m)] st' ∧
        st'[o]? = some (sg X (i + (sepsT ts).length + 1) TREE) ∧ st'[m]? = some (.lst (dTs (done ++ ts))) ∧ Keep [o] st0 st' := by
  intro fuel
  have hne : o ≠ m := by omega
  induction fuel with
  | zero => intro ts done i st h; omega
  | succ fuel ihf =>
    intro ts done i st hf hk hl hat hkids hd kp
    cases ts with
    | nil =>
      rw [sepsT, List.nil_append] at hd
      refine ⟨st.set o (sg X (i + 1) TREE), w_stop ?_, set_here hat, ?_, kp.trans (Keep.set (by simp))⟩
      · apply e_cmp (x := .str [41]) (y := .str [44]) (s1 := st.set o (sg X (i + 1) TREE)) (s2 := st.set o (sg X (i + 1) TREE))
        · apply e_om (n := o)
          · exact e_var rfl
          · exact hat
          · rfl
          · rfl
          · exact e_cons e_cst e_nil
          · exact sigtake_spec F (k + 1) hX hat hd (by simp)
        · exact e_cst
        · exact d_eq rfl
      · rw [List.append_nil]; exact set_at hkids hne
    | cons t ts =>
      rw [sepsT, List.cons_append, List.append_assoc] at hd
      have hd1 : X.drop (i + 1) = tx t ++ (sepsT ts ++ 41 :: rest) := drop_add' (u := [44]) hd
      have hd2 : X.drop (i + 1 + (tx t).length) = sepsT ts ++ 41 :: rest := drop_add' hd1
      have a1 : (st.set o (sg X (i + 1) TREE))[o]? = some (sg X (i + 1) TREE) := set_here hat
      have a2 : ((st.set o (sg X (i + 1) TREE)).set o (sg X (i + 1 + (tx t).length) TREE))[o]? = some (sg X (i + 1 + (tx t).length) TREE) := set_here a1
      have b2 : ((st.set o (sg X (i + 1) TREE)).set o (sg X (i + 1 + (tx t).length) TREE))[m]? = some (.lst (dTs done)) := set_at (set_at hkids hne) hne
      have hb : evSs (pr.cl F (k + 3)) F pt_body [some (.loc o), some lab, some (.loc m)] (st.set o (sg X (i + 1) TREE)) = .ok .nx [some (.loc o), some lab, some (.loc m)]
          (((st.set o (sg X (i + 1) TREE)).set o (sg X (i + 1 + (tx t).length) TREE)).set m (.lst (dTs (done ++ [t])))) := by
        apply b_cons
        · apply s_expr (x := .non)
          apply e_me1
          · exact e_var rfl
          · exact r_lst (set_at hkids hne) (by decide)
          · apply e_om (n := o)
            · exact e_var rfl
            · exact a1
            · rfl
            · rfl
            · exact e_nil
            · refine ih t _ _ _ (hk t List.mem_cons_self).1 (hk t List.mem_cons_self).2 a1 hd1 ?_
              intro r
              cases ts with
              | nil => simp [sepsT]
              | cons u us => simp [sepsT]
          · exact d_app b2 (by rw [dTs_map, List.length_map]; unfold LIM; simp only [List.length_cons] at hl; omega)
        · rw [dTs_app, show dTs [t] = [dT t] by rw [dTs, dTs]]
          exact b_nil
      obtain ⟨st', h1, h2, h3, h4⟩ := ihf ts (done ++ [t]) (i + 1 + (tx t).length) (((st.set o (sg X (i + 1) TREE)).set o (sg X (i + 1 + (tx t).length) TREE)).set m (.lst (dTs (done ++ [t]))))
        (by simp only [List.length_cons] at hf; omega) (fun u hu => hk u (List.mem_cons_of_mem _ hu)) (by simp only [List.length_append, List.length_cons, List.length_nil] at hl ⊢; omega)
        (set_at a2 hne.symm) (set_here b2) hd2 (Keep.setN ((kp.trans (Keep.set (by simp))).trans (Keep.set (by simp))) hm)
      refine ⟨st', w_turn ?_ hb h1, ?_, ?_, h4⟩
      · apply e_cmp (x := .str [44]) (y := .str [44]) (s1 := st.set o (sg X (i + 1) TREE)) (s2 := st.set o (sg X (i + 1) TREE))
        · apply e_om (n := o)
          · exact e_var rfl
          · exact hat
          · rfl
          · rfl
          · exact e_cons e_cst e_nil
          · exact sigtake_spec F (k + 1) hX hat hd (by simp)
        · exact e_cst
        · exact d_eq rfl
      · rw [h2, sepsT]; simp only [List.length_cons, List.length_append]; congr 2; omega
      · rw [h3, List.append_assoc]; rfl
theorem part_spec {F : Nat} {X : Tx} (hF : 10 < F) (hX : X.length ≤ LIM) {o : Nat} (k : Nat) : ∀ (t : T) (st : Sto) (i : Nat) (rest : Tx), ht t ≤ k → okT t → st[o]? = some (sg X i TREE) → X.drop i = tx t ++ rest → (∀ r, rest ≠ 40 :: r) →
    pr.call F (k + 3) f_Signs_part [.loc o] st = .ok (dT t) (st.set o (sg X (i + (tx t).length) TREE)) := by
  induction k with
  | zero => intro t st i rest h; have := ht_pos t; omega
  | succ k ih =>
    intro t st i rest h ok hat hd hr
    cases t with
    | node c ks =>
      have ok' := ok
      rw [okT] at ok'
      obtain ⟨hc, hk3, hoks⟩ := ok'
      rw [ht] at h
      have ho := lt_of_at hat
      have hm : c ∈ [97, 98, 99, 100, 101, 102] := by
        simp only [List.mem_cons, List.not_mem_nil, or_false]; omega
      obtain ⟨r1, hr1⟩ : ∃ r1, X.drop i = c :: r1 := by
        rw [hd, tx]; split
        · exact ⟨_, rfl⟩
        · exact ⟨_, rfl⟩
      have hd1 : X.drop (i + 1) = r1 := drop_add' (u := [c]) hr1
      let s1 : Sto := st.set o (sg X (i + 1) TREE)
      have a1 : s1[o]? = some (sg X (i + 1) TREE) := set_here hat
      let s2 : Sto := s1 ++ [.lst []]
      have hs1 : s1.length = st.length := by simp [s1]
      have a2 : s2[o]? = some (sg X (i + 1) TREE) := app_at _ a1
      have b2 : s2[s1.length]? = some (.lst []) := at_last
      have k2 : Keep [o] st s2 := (Keep.set (by simp)).trans (Keep.app _ _ _)
      -- the head of the body
      have head : ∀ res, evSs (pr.cl F (k + 3)) F (.cons (.ite (.cmp .eq (.om n_here m_here (.var 0) .nil) (.cst (.str [40]))) (.cons (.setf (.var 0) n_at (.bin .add (.fld (.var 0) n_at) (.cst (.int 1)))) (.cons (.expr (.me1 .append (.var 2) (.om n_part m_part (.var 0) .nil))) (.cons (.whl pt_test pt_body) .nil))) .nil) (.cons (.ret (.tup (.cons (.var 1) (.cons (.bi .tuple (.var 2)) .nil)))) .nil)) [some (.loc o), some (.str [c]), some (.loc s1.length)] s2 = res →
          evSs (pr.cl F (k + 3)) F b_Signs_part [some (.loc o), none, none] st = res := fun res hres => by
        apply b_cons
        · apply s_iteF
          · apply e_andF
            apply e_cmp
            · apply e_fld
              · exact e_var rfl
              · exact d_kind hat
            · exact e_cst
            · exact d_eq rfl
          · exact b_nil
        apply b_cons
        · apply s_iteF
          · apply e_andF
            apply e_cmp
            · apply e_fld
              · exact e_var rfl
              · exact d_kind hat
            · exact e_cst
            · exact d_eq rfl
          · exact b_nil
        apply b_cons
        · apply s_asg
          · apply e_om (n := o)
            · exact e_var rfl
            · exact hat
            · rfl
            · rfl
            · exact e_cons e_gl e_nil
            · exact sigtake_spec F (k + 1) hX hat hr1 hm
          · rfl
        apply b_cons
        · apply s_asg
          · exact e_lst e_nil (by simp)
          · rfl
        exact hres
      have test : ∀ st (j : Nat), st[o]? = some (sg X j TREE) → ev (pr.cl F (k + 3)) (.cmp .eq (.om n_here m_here (.var 0) .nil) (.cst (.str [40]))) [some (.loc o), some (.str [c]), some (.loc s1.length)] st = .ok (.bl (decide ((X.drop j).take 1 = [40]))) st := fun st j hj => by
        apply e_cmp (x := .str ((X.drop j).take 1)) (s1 := st) (s2 := st)
        · apply e_om (n := o)
          · exact e_var rfl
          · exact hj
          · rfl
          · rfl
          · exact e_nil
          · exact here_spec F (k + 2) hX hj
        · exact e_cst
        · exact d_eq rfl
      have close : ∀ {s3 : Sto} {ρ1 : Env}, evSs (pr.cl F (k + 3)) F b_Signs_part [some (.loc o), none, none] st = .ok (.rt (dT (.node c ks))) ρ1 s3 → s3[o]? = some (sg X (i + (tx (.node c ks)).length) TREE) → Keep [o] st s3 →
          pr.call F (k + 1 + 3) f_Signs_part [.loc o] st = .ok (dT (.node c ks)) (st.set o (sg X (i + (tx (.node c ks)).length) TREE)) := fun e hs kp => by
        rw [c_rt (fi := ⟨1, 3, b_Signs_part⟩) rfl rfl e]
        exact finish_set (dT_cl _) kp ho hs (sg_cl _)
      cases ks with
      | nil =>
        have e1 : r1 = rest := by
          have := hr1.symm.trans hd
          rw [tx] at this
          simpa using this
        have ht1 := test s2 (i + 1) a2
        rw [hd1, e1, decide_eq_false (by cases rest with
          | nil => simp
          | cons x xs => intro e; simp at e; exact hr xs (by rw [e]))] at ht1
        refine close (s3 := s2) (ρ1 := [some (.loc o), some (.str [c]), some (.loc s1.length)]) (head _ ?_) ?_ k2
        · apply b_cons
          · exact s_iteF ht1 b_nil
          apply b_rt
          apply s_ret
          rw [dT, dTs]
          apply e_tup
          · apply e_cons
            · exact e_var rfl
            apply e_cons
            · apply e_bi
              · exact e_var rfl
              · exact d_tupL b2
            exact e_nil
          · simp
        · rw [a2, tx]; rfl
      | cons u us =>
        have htx : tx (.node c (u :: us)) = c :: 40 :: (tx u ++ sepsT us ++ [41]) := by rw [tx, ← join_seps]; rfl
        have e1 : r1 = 40 :: (tx u ++ (sepsT us ++ 41 :: rest)) := by
          have := hr1.symm.trans hd
          rw [htx] at this
          simpa using this
        have ht1 := test s2 (i + 1) a2
        rw [hd1, e1, decide_eq_true (by simp)] at ht1
        have hd2 : X.drop (i + 2) = tx u ++ (sepsT us ++ 41 :: rest) := drop_add' (u := [40]) (hd1.trans e1)
        have hd3 : X.drop (i + 2 + (tx u).length) = sepsT us ++ 41 :: rest := drop_add' hd2
        let s3 : Sto := s2.set o (sg X (i + 2) TREE)
        have a3 : s3[o]? = some (sg X (i + 2) TREE) := set_here a2
        have hne : o ≠ s1.length := by omega
        have b3 : s3[s1.length]? = some (.lst []) := set_at b2 hne
        let s4 : Sto := s3.set o (sg X (i + 2 + (tx u).length) TREE)
        have a4 : s4[o]? = some (sg X (i + 2 + (tx u).length) TREE) := set_here a3
        have b4 : s4[s1.length]? = some (.lst []) := set_at b3 hne
        let s5 : Sto := s4.set s1.length (.lst (dTs [u]))
        have a5 : s5[o]? = some (sg X (i + 2 + (tx u).length) TREE) := set_at a4 hne.symm
        have b5 : s5[s1.length]? = some (.lst (dTs [u])) := set_here b4
        have k5 : Keep [o] st s5 := Keep.setN ((k2.trans (Keep.set (by simp))).trans (Keep.set (by simp))) (by omega)
        rw [okTs] at hoks
        obtain ⟨s6, h1, h2, h3, h4⟩ := part_loop (lab := .str [c]) hX (m := s1.length) (st0 := st) (by omega) ho (rest := rest) (fun t st i rest a b c d e => ih t st i rest a b c d e) F us [u] (i + 2 + (tx u).length) s5
          (by simp only [List.length_cons] at hk3; omega) (fun t ht => ⟨by have := hts_le (List.mem_cons_of_mem u ht); omega, okTs_mem hoks.2 ht⟩) (by simp only [List.length_cons, List.length_nil] at hk3 ⊢; omega) a5 b5 hd3 k5
        refine close (s3 := s6) (ρ1 := [some (.loc o), some (.str [c]), some (.loc s1.length)]) (head _ ?_) ?_ h4
        · apply b_cons
          · apply s_iteT ht1
            apply b_cons
            · exact at_step rfl a2
            apply b_cons (s1 := s5)
            · apply s_expr (x := .non)
              apply e_me1
              · exact e_var rfl
              · exact r_lst b3 (by decide)
              · apply e_om (n := o)
                · exact e_var rfl
                · exact a3
                · rfl
                · rfl
                · exact e_nil
                · refine ih u _ _ _ (by have := hts_le (List.mem_cons_self (a := u) (l := us)); omega) hoks.1 a3 hd2 ?_
                  intro r
                  cases us with
                  | nil => simp [sepsT]
                  | cons u us => simp [sepsT]
              · exact d_app b4 (by simp [LIM])
            apply b_cons
            · exact s_whl h1
            exact b_nil
          apply b_rt
          apply s_ret
          rw [dT]
          apply e_tup
          · apply e_cons
            · exact e_var rfl
            apply e_cons
            · apply e_bi
              · exact e_var rfl
              · exact d_tupL h3
            exact e_nil
          · simp
        · rw [h2, htx]
          congr 2
          simp only [List.length_cons, List.length_append, List.length_nil]
          omega
end Law
namespace Law
open Z
theorem init_spec (F k : Nat) {X kd : Tx} {st : Sto} : pr.call F (k + 1) f_Signs_init [.loc st.length, .str X, .str kd] (st ++ [Cell.ins 0 []]) = .ok .non (st ++ [sg X 0 kd]) := by
  have a0 : (st ++ [Cell.ins 0 []])[st.length]? = some (.ins 0 []) := at_last
  let c1 : Cell := .ins 0 (putF' n_text (.str X) [])
  let c2 : Cell := .ins 0 (putF' n_at (.int 0) (putF' n_text (.str X) []))
  let c3 : Cell := .ins 0 (putF' n_kind (.str kd) (putF' n_at (.int 0) (putF' n_text (.str X) [])))
  have h3 : c3 = sg X 0 kd := by simp [c3, putF', sg]
  have e : evSs (pr.cl F k) F b_Signs_init [some (.loc st.length), some (.str X), some (.str kd)] (st ++ [Cell.ins 0 []]) = .ok .nx [some (.loc st.length), some (.str X), some (.str kd)] ((((st ++ [Cell.ins 0 []]).set st.length c1).set st.length c2).set st.length c3) := by
    apply b_cons
    · apply s_setf
      · exact e_var rfl
      · exact e_var rfl
      · exact a0
      · simp
    apply b_cons
    · apply s_setf
      · exact e_cst
      · exact e_var rfl
      · exact set_here a0
      · simp [putF']
    apply b_cons
    · apply s_setf
      · exact e_var rfl
      · exact e_var rfl
      · exact set_here (set_here a0)
      · simp [putF']
    exact b_nil
  rw [c_nx (fi := ⟨3, 3, b_Signs_init⟩) rfl rfl e]
  rw [finish_set (o := st.length) (c := c3) rfl (((Keep.set (by simp)).trans (Keep.set (by simp))).trans (Keep.set (by simp))) (by simp) (set_here (set_here (set_here a0))) (by rw [h3]; exact sg_cl _), h3]
  congr 1
  rw [List.set_append_right _ _ (Nat.le_refl _), Nat.sub_self]; rfl
theorem whole_spec {F : Nat} {X : Tx} (hF : 10 < F) (hX : X.length ≤ LIM) {o : Nat} (k : Nat) {t : T} {st : Sto} (hk : ht t ≤ k) (ok : okT t) (hat : st[o]? = some (sg X 0 TREE)) (hd : X = tx t) :
    pr.call F (k + 4) f_Signs_whole [.loc o] st = .ok (dT t) (st.set o (sg X X.length TREE)) := by
  have a1 : (st.set o (sg X X.length TREE))[o]? = some (sg X X.length TREE) := set_here hat
  have e : ∃ ρ1, evSs (pr.cl F (k + 3)) F b_Signs_whole [some (.loc o), none] st = .ok (.rt (dT t)) ρ1 (st.set o (sg X X.length TREE)) := by
    apply Exists.intro
    apply b_cons
    · apply s_asg
      · apply e_om (n := o)
        · exact e_var rfl
        · exact hat
        · rfl
        · rfl
        · exact e_nil
        · have := part_spec hF hX (o := o) k t st 0 [] hk ok hat (by simpa using hd) (by simp)
          rw [Nat.zero_add, ← hd] at this
          exact this
      · rfl
    apply b_cons
    · apply s_iteF
      · apply e_cmp
        · apply e_fld
          · exact e_var rfl
          · exact d_at a1
        · apply e_bi
          · apply e_fld
            · exact e_var rfl
            · exact d_text a1
          · exact d_lenS hX
        · exact d_ltF (by omega)
      · exact b_nil
    apply b_rt
    apply s_ret
    exact e_var rfl
  obtain ⟨ρ1, e⟩ := e
  rw [c_rt (fi := ⟨1, 2, b_Signs_whole⟩) rfl rfl e]
  exact finish_set (dT_cl _) (Keep.set (by simp)) (lt_of_at hat) a1 (sg_cl _)
theorem tx_lim {t : T} (hs : sz t ≤ 60) : (tx t).length ≤ LIM := by have := tx_len t; unfold LIM; omega
theorem read_spec {F : Nat} (hF : 61 < F) (k : Nat) {t : T} {st : Sto} (hk : ht t ≤ k) (ok : okT t) (hs : sz t ≤ 60) (hd : ht t ≤ 12) :
    pr.call F (k + 5) f_read [.str (tx t)] st = .ok (dT t) st := by
  have hX := tx_lim hs
  have a0 : (st ++ [sg (tx t) 0 TREE])[st.length]? = some (sg (tx t) 0 TREE) := at_last
  have e : ∃ ρ1, evSs (pr.cl F (k + 4)) F b_read [some (.str (tx t)), none] st = .ok (.rt (dT t)) ρ1 ((st ++ [sg (tx t) 0 TREE]).set st.length (sg (tx t) (tx t).length TREE)) := by
    apply Exists.intro
    apply b_cons
    · apply s_asg
      · apply e_om (n := st.length)
        · apply e_mk (s1 := st)
          · apply e_cons
            · exact e_var rfl
            exact e_cons e_cst e_nil
          · rfl
          · exact init_spec F (k + 3)
        · exact a0
        · rfl
        · rfl
        · exact e_nil
        · exact whole_spec (by omega) hX k hk ok a0 rfl
      · rfl
    apply b_cons
    · apply s_expr
      apply e_call
      · apply e_cons
        · exact e_var rfl
        exact e_nil
      · exact need_spec F (k + 1) hF ok hs hd
    apply b_rt
    apply s_ret
    exact e_var rfl
  obtain ⟨ρ1, e⟩ := e
  rw [c_rt (fi := ⟨1, 2, b_read⟩) rfl rfl e]
  exact finish_pure (dT_cl _) (Keep.setN (Keep.app _ _ _) (Nat.le_refl _))
theorem written_spec {F : Nat} (hF : 61 < F) (k : Nat) {t : T} {st : Sto} (hk : ht t ≤ k + 3) (ok : okT t) (hs : sz t ≤ 60) (hd : ht t ≤ 12) :
    pr.call F (k + 4) f_written [dT t] st = .ok (.str (tx t)) st := by
  have e : evSs (pr.cl F (k + 3)) F b_written [some (dT t)] st = .ok (.rt (.str (tx t))) [some (dT t)] st := by
    apply b_cons
    · apply s_expr
      apply e_call
      · apply e_cons
        · exact e_var rfl
        exact e_nil
      · exact need_spec F k hF ok hs hd
    apply b_rt
    apply s_ret
    apply e_call
    · apply e_cons
      · exact e_var rfl
      exact e_nil
    · exact tree_text_spec F (k + 3) t st hk hs
  rw [c_rt (fi := ⟨1, 1, b_written⟩) rfl rfl e, finish_same]
/-! ### the drawing of trees -/
theorem begun_spec (F k : Nat) {ns : List Int} {st : Sto} (hl : ns.length ≤ 63) : ∃ s, pr.call F (k + 1) f_law_begun [.fl (ns.map D.int)] st = .ok (.loc (st.length + 1)) (st ++ [.lst (ns.map D.int), .lst [.loc st.length, .int s]]) := by
  obtain ⟨ρ', st', h1, h2, s, v, h3⟩ := loop_fix (w := ⟨ns.map D.int, none⟩) (t := .name 2) (b := evSs (pr.cl F k) F (.cons (.asg (.name 1) (.bin .mod (.bin .add (.bin .add (.bin .mul (.var 1) (.cst (.int 48271))) (.bin .mul (.var 2) (.cst (.int 69621)))) (.cst (.int 11))) (.cst (.int 2147483647)))) .nil)) ns D.int
    (fun _ ρ s => s = st ∧ ∃ (z : Int) (v : Option D), ρ = [some (.fl (ns.map D.int)), some (.int z), v]) (fun _ _ _ _ => rfl)
    (by
      intro i a ρ s ha hp
      obtain ⟨rfl, z, v, rfl⟩ := hp
      refine ⟨_, [some (.fl (ns.map D.int)), some (.int ((z * 48271 + a * 69621 + 11) % 2147483647)), some (.int a)], s, rfl, ?_, rfl, _, _, rfl⟩
      apply b_cons
      · apply s_asg
        · apply e_bin
          · apply e_bin
            · apply e_bin
              · apply e_bin
                · exact e_var rfl
                · exact e_cst
                · exact d_mul (.inr (by decide))
              · apply e_bin
                · exact e_var rfl
                · exact e_cst
                · exact d_mul (.inr (by decide))
              · rfl
            · exact e_cst
            · rfl
          · exact e_cst
          · exact d_mod (by decide)
        · rfl
      exact b_nil) ns.length 0 [some (.fl (ns.map D.int)), some (.int 0), none] st (by simp) ⟨rfl, 0, none, rfl⟩
  subst h2 h3
  rw [List.drop_zero] at h1
  refine ⟨s * (if decide (2 < ((ns.map D.int).length : Int)) then 1 else 0), ?_⟩
  have e : ∃ ρ1, evSs (pr.cl F k) F b_law_begun [some (.fl (ns.map D.int)), none, none] st' = .ok (.rt (.loc (st'.length + 1))) ρ1 (st' ++ [.lst (ns.map D.int)] ++ [.lst [.loc st'.length, .int (s * (if decide (2 < ((ns.map D.int).length : Int)) then 1 else 0))]]) := by
    apply Exists.intro
    apply b_cons
    · exact s_asg e_cst rfl
    apply b_cons
    · apply s_for (w := ⟨ns.map D.int, none⟩) (s1 := st')
      · apply e_it
        · exact e_var rfl
        · rfl
      · exact h1
    apply b_rt
    apply s_ret
    rw [show (Z.D.loc (st'.length + 1)) = Z.D.loc (st' ++ [Cell.lst (ns.map D.int)]).length by simp]
    apply e_lst
    · apply e_cons
      · apply e_bi
        · exact e_var rfl
        · rfl
      apply e_cons
      · apply e_bin
        · exact e_var rfl
        · apply e_bi
          · apply e_cmp
            · apply e_bi
              · exact e_var rfl
              · rfl
            · exact e_cst
            · exact d_gt
          · rfl
        · exact d_mul (.inr (by split <;> decide))
      exact e_nil
    · simp
  obtain ⟨ρ1, e⟩ := e
  rw [c_rt (fi := ⟨1, 3, b_law_begun⟩) rfl rfl e]
  unfold finish
  simp only
  rw [if_neg (by intro h; have := h.1; simp [clD] at this)]
  simp
end Law
namespace Law
open Z
theorem take_int {L : List Nat} {r : Int} (h0 : 0 ≤ r) (h1 : r < L.length) : ∃ x, x ∈ L ∧ L2.atI L r = some x := by
  obtain ⟨n, rfl⟩ := Int.eq_ofNat_of_zero_le h0
  have h : n < L.length := by omega
  exact ⟨L[n], List.getElem_mem h, atI_nat (List.getElem?_eq_getElem h)⟩
theorem szs_app (a b : List T) : szs (a ++ b) = szs a + szs b := by
  induction a with
  | nil => simp [szs]
  | cons x a ih => rw [List.cons_append, szs, szs, ih]; omega
theorem hts_app (a b : List T) : hts (a ++ b) = max (hts a) (hts b) := by
  induction a with
  | nil => simp [hts]
  | cons x a ih => rw [List.cons_append, hts, hts, ih]; omega
theorem okTs_app (a b : List T) : okTs (a ++ b) ↔ okTs a ∧ okTs b := by
  induction a with
  | nil => simp [okTs]
  | cons x a ih => rw [List.cons_append, okTs, okTs, ih, and_assoc]
theorem grown_spec (F : Nat) {L : Tx} (hL : 1 ≤ L.length) (hL2 : ∀ x ∈ L, 97 ≤ x ∧ x ≤ 102) (hLn : L.length < 1000) : ∀ (k deep : Nat) (st : Sto) (b c l : Nat) (ns : List Int) (s n : Int), deep ≤ k → 1 ≤ deep → BoxAt st b c ns s → st[l]? = some (.lst [.int n]) → l ≠ b → l ≠ c → 1 ≤ n → n ≤ 60 →
    ∃ t st' ns' s' n', pr.call F (k + 2) f_law_grown [.loc b, .str L, .loc l, .int deep] st = .ok (dT t) st' ∧ okT t ∧ ht t ≤ deep ∧ (sz t : Int) + n' = n ∧ 0 ≤ n' ∧ BoxAt st' b c ns' s' ∧ st'[l]? = some (.lst [.int n']) ∧ Keep [b, c, l] st st' ∧ st'.length = st.length := by
  intro k
  induction k with
  | zero => intro deep st b c l ns s n h1 h2; omega
  | succ k ih =>
    intro deep st b c l ns s n hdk hd1 hb hl hlb hlc hn1 hn60
    have hbl := lt_of_at hb.at_b
    have hcl := lt_of_at hb.at_c
    have hll := lt_of_at hl
    let s1 : Sto := st.set l (.lst [.int (n - 1)])
    have l1 : s1.length = st.length := by simp [s1]
    have kp1 : Keep [l] st s1 := Keep.set (by simp)
    have bx1 : BoxAt s1 b c ns s := hb.keep kp1 (by simpa using hlb.symm) (by simpa using hlc.symm)
    have al1 : s1[l]? = some (.lst [.int (n - 1)]) := set_here hl
    let s2 : Sto := s1 ++ [.lst []]
    have kp2 : Keep [l] st s2 := kp1.appN _
    have bx2 : BoxAt s2 b c ns s := hb.keep kp2 (by simpa using hlb.symm) (by simpa using hlc.symm)
    have al2 : s2[l]? = some (.lst [.int (n - 1)]) := app_at _ al1
    have am2 : s2[s1.length]? = some (.lst []) := at_last
    obtain ⟨r, s3, ns3, z3, e3, hr0, hr1, bx3, kp3, l3⟩ := take_spec F (k + 1) bx2 (m := 4) (by decide) (by decide)
    have hmb : s1.length ≠ b := by omega
    have hmc : s1.length ≠ c := by omega
    have hml : s1.length ≠ l := by omega
    have al3 := kp3.get al2 (by simp [hlb, hlc])
    have am3 := kp3.get am2 (by simp [hmb, hmc])
    have kp03 : Keep [b, c, l] st s3 := (kp2.mono (by simp)).trans (kp3.mono (by simp))
    obtain ⟨ρ4, s4, e4, ⟨v4, hv4⟩, ks, ns4, z4, n4, bx4, al4, am4, hks, hok, hht, hsz, hn4, kp4, hl4⟩ := loop_rng (t := .name 5) (b := evSs (pr.cl F (k + 2)) F (.cons (.ite (.and (.cmp .gt (.var 3) (.cst (.int 1))) (.cmp .gt (.ix (.var 2) (.cst (.int 0))) (.cst (.int 0)))) (.cons (.expr (.me1 .append (.var 4) (.call f_law_grown (.cons (.var 0) (.cons (.var 1) (.cons (.var 2) (.cons (.bin .sub (.var 3) (.cst (.int 1))) .nil))))))) .nil) .nil) .nil)) r.toNat
      (fun i ρ x => (∃ v, ρ = [some (.loc b), some (.str L), some (.loc l), some (.int deep), some (.loc s1.length), v]) ∧ ∃ ks ns' z' n', BoxAt x b c ns' z' ∧ x[l]? = some (.lst [.int n']) ∧ x[s1.length]? = some (.lst (dTs ks)) ∧ ks.length ≤ i ∧ okTs ks ∧ hts ks + 1 ≤ deep ∧ 1 + (szs ks : Int) + n' = n ∧ 0 ≤ n' ∧ Keep [b, c, l] st x ∧ x.length = st.length + 1)
      (by
        intro i ρ x hi hp
        obtain ⟨⟨v, rfl⟩, ks, ns', z', n', bx, al, am, hks, hok, hht, hsz, hn, kp, hx⟩ := hp
        have test : ∀ v, ev (pr.cl F (k + 2)) (.and (.cmp .gt (.var 3) (.cst (.int 1))) (.cmp .gt (.ix (.var 2) (.cst (.int 0))) (.cst (.int 0)))) [some (.loc b), some (.str L), some (.loc l), some (.int deep), some (.loc s1.length), v] x = .ok (.bl (decide (1 < (deep : Int)) && decide (0 < n'))) x := fun v => by
          apply e_and
          · apply e_cmp
            · exact e_var rfl
            · exact e_cst
            · exact d_gt
          · intro _
            apply e_cmp
            · apply e_ix
              · exact e_var rfl
              · exact e_cst
              · exact d_ixL al atI_0
            · exact e_cst
            · exact d_gt
        cases hq : (decide (1 < (deep : Int)) && decide (0 < n')) with
        | false =>
          refine ⟨_, [some (.loc b), some (.str L), some (.loc l), some (.int deep), some (.loc s1.length), some (.int (0 + (i : Int)))], x, rfl, ?_, ⟨_, rfl⟩, ks, ns', z', n', bx, al, am, by omega, hok, hht, hsz, hn, kp, hx⟩
          apply b_cons
          · have := test (some (.int (0 + (i : Int))))
            rw [hq] at this
            exact s_iteF this b_nil
          exact b_nil
        | true =>
          have hq' := hq
          rw [Bool.and_eq_true, decide_eq_true_eq, decide_eq_true_eq] at hq
          obtain ⟨t, y, ns'', z'', n'', g1, g2, g3, g4, g5, g6, g7, g8, g9⟩ := ih (deep - 1) x b c l ns' z' n' (by omega) (by omega) bx al hlb hlc (by omega) (by omega)
          have am' := g8.get am (by simp [hmb, hmc, hml])
          refine ⟨_, [some (.loc b), some (.str L), some (.loc l), some (.int deep), some (.loc s1.length), some (.int (0 + (i : Int)))], y.set s1.length (.lst (dTs (ks ++ [t]))), rfl, ?_, ⟨_, rfl⟩, ks ++ [t], ns'', z'', n'',
            ⟨set_at g6.at_b hmb, set_at g6.at_c hmc, g6.few⟩, set_at g7 hml, set_here am', by simp; omega, (okTs_app _ _).mpr ⟨hok, by rw [okTs, okTs]; exact ⟨g2, trivial⟩⟩, ?_, ?_, g5, (kp.trans g8).setN (by omega), by simp [g9, hx]⟩
          · apply b_cons
            · have := test (some (.int (0 + (i : Int))))
              rw [hq'] at this
              apply s_iteT this
              apply b_cons
              · apply s_expr (x := .non) (s1 := y.set s1.length (.lst (dTs (ks ++ [t]))))
                apply e_me1
                · exact e_var rfl
                · exact r_lst am (by decide)
                · apply e_call
                  · apply e_cons
                    · exact e_var rfl
                    apply e_cons
                    · exact e_var rfl
                    apply e_cons
                    · exact e_var rfl
                    apply e_cons (x := .int ((deep - 1 : Nat) : Int))
                    · apply e_bin
                      · exact e_var rfl
                      · exact e_cst
                      · rw [show (((deep - 1 : Nat)) : Int) = (deep : Int) - 1 by omega]; rfl
                    exact e_nil
                  · exact g1
                · rw [dTs_app, show dTs [t] = [dT t] by rw [dTs, dTs]]
                  refine d_app am' ?_
                  rw [dTs_map, List.length_map]; unfold LIM; omega
              exact b_nil
            exact b_nil
          · rw [hts_app, hts, hts]; omega
          · rw [szs_app, szs, szs]; omega)
      (ρ := [some (.loc b), some (.str L), some (.loc l), some (.int deep), some (.loc s1.length), none]) (st := s3)
      ⟨⟨none, rfl⟩, [], ns3, z3, n - 1, bx3, al3, by rw [dTs]; exact am3, by simp, by rw [okTs]; trivial, by rw [hts]; omega, by rw [szs]; omega, by omega, kp03, by rw [l3]; simp [s2, l1]⟩
    subst hv4
    obtain ⟨q, s5, ns5, z5, e5, hq0, hq1, bx5, kp5, l5⟩ := take_spec F (k + 1) bx4 (m := (L.length : Int)) (by omega) (by omega)
    obtain ⟨x, hx, hxa⟩ := take_int hq0 hq1
    have al5 := kp5.get al4 (by simp [hlb, hlc])
    have am5 := kp5.get am4 (by simp [hmb, hmc])
    have e : ∃ ρ1, evSs (pr.cl F (k + 2)) F b_law_grown [some (.loc b), some (.str L), some (.loc l), some (.int deep), none, none] st = .ok (.rt (dT (.node x ks))) ρ1 s5 := by
      apply Exists.intro
      apply b_cons
      · apply s_seti (xs := [.int n]) (j := 0)
        · apply e_bin
          · apply e_ix
            · exact e_var rfl
            · exact e_cst
            · exact d_ixL hl atI_0
          · exact e_cst
          · rfl
        · exact e_var rfl
        · exact e_cst
        · exact hl
        · exact ixN_0
      apply b_cons
      · apply s_asg (s1 := s2)
        · exact e_lst e_nil (by simp)
        · rfl
      apply b_cons
      · apply s_for
        · apply e_rng1
          · apply e_call
            · apply e_cons
              · exact e_var rfl
              exact e_cons e_cst e_nil
            · exact e3
          · unfold iLim; omega
        · exact e4
      apply b_rt
      apply s_ret
      rw [dT]
      apply e_tup
      · apply e_cons
        · apply e_ix
          · exact e_var rfl
          · apply e_call
            · apply e_cons
              · exact e_var rfl
              apply e_cons
              · apply e_bi
                · exact e_var rfl
                · exact d_lenS (by unfold LIM; omega)
              exact e_nil
            · exact e5
          · exact d_ixS (by unfold LIM; omega) hxa
        apply e_cons
        · apply e_bi
          · exact e_var rfl
          · exact d_tupL am5
        exact e_nil
      · simp
    obtain ⟨ρ1, e⟩ := e
    have kpE : Keep [b, c, l] st s5 := kp4.trans (kp5.mono (by simp))
    obtain ⟨st', f1, f2, f3, f4⟩ := finish_keep (S := [b, c, l]) (d := dT (.node x ks)) (dT_cl _) kpE (fun i hi => by
      simp only [List.mem_cons, List.not_mem_nil, or_false] at hi
      rcases hi with rfl | rfl | rfl
      · exact ⟨_, bx5.at_b, by simp [clC, clDs, clD, hcl]⟩
      · exact ⟨_, bx5.at_c, by simp [clC]⟩
      · exact ⟨_, al5, by simp [clC, clDs, clD]⟩)
    refine ⟨.node x ks, st', ns5, z5, n4, ?_, ?_, ?_, ?_, hn4, ⟨by rw [f4 b hbl]; exact bx5.at_b, by rw [f4 c hcl]; exact bx5.at_c, bx5.few⟩, by rw [f4 l hll]; exact al5, f2, f3⟩
    · rw [c_rt (fi := ⟨4, 6, b_law_grown⟩) rfl rfl e, f1]
    · rw [okT]; exact ⟨hL2 x hx, by omega, hok⟩
    · rw [ht]; omega
    · rw [sz]; omega
theorem tree_spec (F : Nat) {L : Tx} (hL : 1 ≤ L.length) (hL2 : ∀ x ∈ L, 97 ≤ x ∧ x ≤ 102) (hLn : L.length < 1000) (k : Nat) (hk : 12 ≤ k) {st : Sto} {b c : Nat} {ns : List Int} {s : Int} (hb : BoxAt st b c ns s) :
    ∃ t st' ns' s', pr.call F (k + 3) f_law_tree [.loc b, .str L] st = .ok (dT t) st' ∧ okT t ∧ ht t ≤ 12 ∧ sz t ≤ 60 ∧ BoxAt st' b c ns' s' ∧ Keep [b, c] st st' ∧ st'.length = st.length := by
  have hbl := lt_of_at hb.at_b
  have hcl := lt_of_at hb.at_c
  have kp1 : Keep [b, c] st (st ++ [Cell.lst [.int 1, .int 6, .int 14, .int 60]]) := Keep.app _ _ _
  have bx1 : BoxAt (st ++ [Cell.lst [.int 1, .int 6, .int 14, .int 60]]) b c ns s := ⟨app_at _ hb.at_b, app_at _ hb.at_c, hb.few⟩
  have am1 : (st ++ [Cell.lst [.int 1, .int 6, .int 14, .int 60]])[st.length]? = some (.lst [.int 1, .int 6, .int 14, .int 60]) := at_last
  obtain ⟨r, s2, ns2, z2, e2, hr0, hr1, bx2, kp2, l2⟩ := take_spec F (k + 1) bx1 (m := 4) (by decide) (by decide)
  have am2 := kp2.get am1 (by simp; omega)
  obtain ⟨n, hn, hn1, hn60⟩ : ∃ n : Int, L2.atI [D.int 1, D.int 6, D.int 14, D.int 60] r = some (.int n) ∧ 1 ≤ n ∧ n ≤ 60 := by
    have : r = 0 ∨ r = 1 ∨ r = 2 ∨ r = 3 := by omega
    rcases this with rfl | rfl | rfl | rfl
    · exact ⟨1, rfl, by decide, by decide⟩
    · exact ⟨6, rfl, by decide, by decide⟩
    · exact ⟨14, rfl, by decide, by decide⟩
    · exact ⟨60, rfl, by decide, by decide⟩
  let s3 : Sto := s2 ++ [.lst [.int n]]
  have hl2 : s2.length = st.length + 1 := by rw [l2]; simp
  have al3 : s3[s2.length]? = some (.lst [.int n]) := at_last
  let s4 : Sto := s3 ++ [.lst [.int 4, .int 12]]
  have al4 : s4[s2.length]? = some (.lst [.int n]) := app_at _ al3
  have am4 : s4[s3.length]? = some (.lst [.int 4, .int 12]) := at_last
  have hl3 : s3.length = st.length + 2 := by simp [s3, hl2]
  have bx4 : BoxAt s4 b c ns2 z2 := ⟨app_at _ (app_at _ bx2.at_b), app_at _ (app_at _ bx2.at_c), bx2.few⟩
  obtain ⟨q, s5, ns5, z5, e5, hq0, hq1, bx5, kp5, l5⟩ := take_spec F (k + 1) bx4 (m := 2) (by decide) (by decide)
  have al5 := kp5.get al4 (by simp; omega)
  have am5 := kp5.get am4 (by simp; omega)
  obtain ⟨dp, hdp, hd1, hd12⟩ : ∃ n : Nat, L2.atI [D.int 4, D.int 12] q = some (.int n) ∧ 1 ≤ n ∧ n ≤ 12 := by
    have : q = 0 ∨ q = 1 := by omega
    rcases this with rfl | rfl
    · exact ⟨4, rfl, by decide, by decide⟩
    · exact ⟨12, rfl, by decide, by decide⟩
  obtain ⟨t, s6, ns6, z6, n6, g1, g2, g3, g4, g5, g6, g7, g8, g9⟩ := grown_spec F hL hL2 hLn k dp s5 b c s2.length ns5 z5 n (by omega) hd1 bx5 al5 (by omega) (by omega) hn1 hn60
  have e : ∃ ρ1, evSs (pr.cl F (k + 2)) F b_law_tree [some (.loc b), some (.str L), none] st = .ok (.rt (dT t)) ρ1 s6 := by
    apply Exists.intro
    apply b_cons
    · apply s_asg
      · apply e_ix
        · apply e_lst
          · apply e_cons
            · exact e_cst
            apply e_cons
            · exact e_cst
            apply e_cons
            · exact e_cst
            apply e_cons
            · exact e_cst
            exact e_nil
          · simp
        · apply e_call
          · apply e_cons
            · exact e_var rfl
            exact e_cons e_cst e_nil
          · exact e2
        · exact d_ixL am2 hn
      · rfl
    apply b_rt
    apply s_ret
    apply e_call
    · apply e_cons
      · exact e_var rfl
      apply e_cons
      · exact e_var rfl
      apply e_cons
      · apply e_lst
        · apply e_cons
          · exact e_var rfl
          exact e_nil
        · simp
      apply e_cons
      · apply e_ix
        · apply e_lst
          · apply e_cons
            · exact e_cst
            apply e_cons
            · exact e_cst
            exact e_nil
          · simp
        · apply e_call
          · apply e_cons
            · exact e_var rfl
            exact e_cons e_cst e_nil
          · exact e5
        · exact d_ixL am5 hdp
      exact e_nil
    · exact g1
  obtain ⟨ρ1, e⟩ := e
  have kpE : Keep [b, c] st s6 := by
    have k5 : Keep [b, c] st s5 := ((((kp1.trans kp2).appN _).appN _)).trans kp5
    refine ⟨Nat.le_trans k5.le g8.le, fun i hi hn => ?_⟩
    rw [g8.at_ i (Nat.lt_of_lt_of_le hi k5.le) (by simp only [List.mem_cons, List.not_mem_nil, or_false] at hn ⊢; omega)]
    exact k5.at_ i hi hn
  obtain ⟨st', f1, f2, f3, f4⟩ := finish_keep (S := [b, c]) (d := dT t) (dT_cl _) kpE (fun i hi => by
    simp only [List.mem_cons, List.not_mem_nil, or_false] at hi
    rcases hi with rfl | rfl
    · exact ⟨_, g6.at_b, by simp [clC, clDs, clD, hcl]⟩
    · exact ⟨_, g6.at_c, by simp [clC]⟩)
  refine ⟨t, st', ns6, z6, ?_, g2, by omega, by omega, ⟨by rw [f4 b hbl]; exact g6.at_b, by rw [f4 c hcl]; exact g6.at_c, g6.few⟩, f2, f3⟩
  rw [c_rt (fi := ⟨2, 3, b_law_tree⟩) rfl rfl e, f1]
/-! ### the law -/
mutual
theorem dT_pur : ∀ t : T, purD (dT t) = true
  | .node c ks => by rw [dT]; simp only [purD, purDs, Bool.true_and, Bool.and_true]; exact dTs_pur ks
theorem dTs_pur : ∀ ts : List T, purDs (dTs ts) = true
  | [] => by rw [dTs]; rfl
  | t :: ts => by rw [dTs, purDs, dT_pur t, dTs_pur ts]; rfl
end
mutual
theorem dT_dep : ∀ t : T, depD (dT t) ≤ 2 * ht t + 1
  | .node c ks => by rw [dT, ht]; simp only [depD, depDs]; have := dTs_dep ks; omega
theorem dTs_dep : ∀ ts : List T, depDs (dTs ts) ≤ 2 * hts ts + 1
  | [] => by rw [dTs]; simp [depDs]
  | t :: ts => by rw [dTs, depDs, hts]; have := dT_dep t; have := dTs_dep ts; omega
end
mutual
theorem dT_siz : ∀ t : T, sizD (dT t) + 1 ≤ 6 * sz t
  | .node c ks => by rw [dT, sz]; simp only [sizD, sizDs]; have := dTs_siz ks; omega
theorem dTs_siz : ∀ ts : List T, sizDs (dTs ts) ≤ 6 * szs ts
  | [] => by rw [dTs]; simp [sizDs, szs]
  | t :: ts => by rw [dTs, sizDs, szs]; have := dT_siz t; have := dTs_siz ts; have := sz_pos t; omega
end
def KMAX : Nat := 100
def FUEL : Nat := 100000
theorem law_ev : ∀ ns : List Int, ns.length ≤ 63 → ∃ st, pr.call FUEL KMAX f_law [.fl (ns.map D.int)] [] = .ok (.bl true) st := by
  intro ns hns
  obtain ⟨s, e0⟩ := begun_spec FUEL 98 (ns := ns) (st := []) hns
  let s0 : Sto := [] ++ [.lst (ns.map D.int), .lst [.loc 0, .int s]]
  have bx0 : BoxAt s0 1 0 ns s := ⟨rfl, rfl, hns⟩
  obtain ⟨ρ', st', e1, ⟨v2, v3, v4, h2⟩, ns', z', h3⟩ := loop_rng (t := .name 2) (b := evSs (pr.cl FUEL 99) FUEL (.cons (.asg (.name 3) (.call f_law_tree (.cons (.var 1) (.cons (.cst (.str [97, 98, 99, 100, 101, 102])) .nil)))) (.cons (.asg (.name 4) (.call f_law_text (.cons (.var 3) .nil))) (.cons (.ite (.or (.not (.call f_law_alike (.cons (.call f_written (.cons (.var 3) .nil)) (.cons (.var 4) .nil)))) (.not (.call f_law_alike (.cons (.call f_read (.cons (.var 4) .nil)) (.cons (.var 3) .nil))))) (.cons (.ret (.cst (.bl false))) .nil) .nil) (.cons (.ite (.cmp .ne (.call f_written (.cons (.call f_read (.cons (.var 4) .nil)) .nil)) (.var 4)) (.cons (.ret (.cst (.bl false))) .nil) .nil) .nil))))) 6
    (fun _ ρ x => (∃ v2 v3 v4, ρ = [some (.fl (ns.map D.int)), some (.loc 1), v2, v3, v4]) ∧ ∃ ns' z', BoxAt x 1 0 ns' z')
    (by
      intro i ρ x hi hp
      obtain ⟨⟨v2, v3, v4, rfl⟩, ns', z', bx⟩ := hp
      obtain ⟨t, y, ns2, z2, g1, g2, g3, g4, g5, g6, g7⟩ := tree_spec FUEL (L := [97, 98, 99, 100, 101, 102]) (by decide) (by decide) (by decide) 96 (by decide) bx
      refine ⟨_, [some (.fl (ns.map D.int)), some (.loc 1), some (.int (0 + (i : Int))), some (dT t), some (.str (tx t))], y, rfl, ?_, ⟨_, _, _, rfl⟩, ns2, z2, g5⟩
      apply b_cons
      · apply s_asg
        · apply e_call
          · apply e_cons
            · exact e_var rfl
            exact e_cons e_cst e_nil
          · exact g1
        · rfl
      apply b_cons
      · apply s_asg
        · apply e_call
          · exact e_cons (e_var rfl) e_nil
          · exact law_text_spec FUEL 99 t y (by omega) g4
        · rfl
      have a1 := dT_dep t
      have a2 := dT_siz t
      apply b_cons
      · apply s_iteF
        · apply e_orF
          · apply e_not (k := true)
            apply e_call
            · apply e_cons (x := .str (tx t))
              · apply e_call
                · exact e_cons (e_var rfl) e_nil
                · exact written_spec (by decide) 95 (by omega) g2 g4 g3
              · exact e_cons (e_var rfl) e_nil
            · exact alike_spec FUEL 99 (.str (tx t)) _ (by simp [depD]) rfl (by simp [sizD])
          · apply e_not (k := true)
            apply e_call
            · apply e_cons (x := dT t)
              · apply e_call
                · exact e_cons (e_var rfl) e_nil
                · exact read_spec (by decide) 94 (by omega) g2 g4 g3
              · exact e_cons (e_var rfl) e_nil
            · exact alike_spec FUEL 99 (dT t) _ (by omega) (dT_pur t) (by omega)
        · exact b_nil
      apply b_cons
      · apply s_iteF
        · apply e_cmp (x := .str (tx t))
          · apply e_call
            · apply e_cons
              · apply e_call
                · exact e_cons (e_var rfl) e_nil
                · exact read_spec (by decide) 94 (by omega) g2 g4 g3
              · exact e_nil
            · exact written_spec (by decide) 95 (by omega) g2 g4 g3
          · exact e_var rfl
          · exact d_ne (b := true) (by show some (decide _) = _; rw [decide_eq_true rfl])
        · exact b_nil
      exact b_nil)
    (ρ := [some (.fl (ns.map D.int)), some (.loc 1), none, none, none]) (st := s0) ⟨⟨none, none, none, rfl⟩, ns, s, bx0⟩
  subst h2
  have e : ∃ ρ1, evSs (pr.cl FUEL 99) FUEL b_law [some (.fl (ns.map D.int)), none, none, none, none] [] = .ok (.rt (.bl true)) ρ1 st' := by
    apply Exists.intro
    apply b_cons
    · apply s_asg
      · apply e_call
        · exact e_cons (e_var rfl) e_nil
        · exact e0
      · rfl
    apply b_cons
    · apply s_for
      · apply e_rng1 (n := 6)
        · exact e_cst
        · decide
      · exact e1
    apply b_rt
    exact s_ret e_cst
  obtain ⟨ρ1, e⟩ := e
  refine ⟨[], ?_⟩
  show pr.call FUEL (99 + 1) f_law _ _ = _
  rw [c_rt (fi := ⟨1, 5, b_law⟩) rfl rfl e]
  exact finish_pure rfl ⟨by simp, fun i hi => by simp at hi⟩
end Law
/-! ### the IR stands in the row; the end (printed by gen.py) -/
namespace Law
open Z PySem L2
def top (i : Nat) : Stmt := PySem.Challenge.pw_treetellers_k19_trees_written.main.body.getD i (.Pass ⟨0, 0, 0, 0⟩)
def cc : CC := ⟨[("law", f_law), ("written", f_written), ("read", f_read), ("_law_alike", f_law_alike), ("_law_text", f_law_text), ("_law_tree", f_law_tree), ("_law_begun", f_law_begun), ("tree_text", f_tree_text), ("need_tree", f_need_tree), ("_law_grown", f_law_grown), ("_law_take", f_law_take), ("is_node", f_is_node), ("is_label", f_is_label)],
  [("Signs", c_Signs)],
  [("ANY", g_ANY), ("DO", g_DO), ("FIGURES", g_FIGURES), ("LABELS", g_LABELS), ("LEAF", g_LEAF), ("MOST_DEEP", g_MOST_DEEP), ("MOST_KIDS", g_MOST_KIDS), ("MOST_PLACES", g_MOST_PLACES)],
  ["bool", "int", "isinstance", "len", "list", "range", "str", "tuple"],
  [("whole", m_whole), ("part", m_part), ("here", m_here), ("take", m_take), ("do", m_do)],
  ["kind", "at", "text"]⟩
abbrev s_law : Stmt := top 30
abbrev N_law : List Str := ["_law_script", "_law_box", "_law_turn", "_law_tree_here", "_law_text_here"]
abbrev P_law : List Str := ["_law_script"]
theorem sc_law : FnScope N_law P_law (defScope s_law) := ⟨rfl, rfl, rfl, by decide +kernel, rfl, by decide +kernel, by decide +kernel⟩
theorem ck_law : chkSs cc N_law (defScope s_law) b_law (defBody s_law) = true := by decide +kernel
abbrev s_written : Stmt := top 18
abbrev N_written : List Str := ["tree"]
abbrev P_written : List Str := ["tree"]
theorem sc_written : FnScope N_written P_written (defScope s_written) := ⟨rfl, rfl, rfl, by decide +kernel, rfl, by decide +kernel, by decide +kernel⟩
theorem ck_written : chkSs cc N_written (defScope s_written) b_written (defBody s_written) = true := by decide +kernel
abbrev s_read : Stmt := top 20
abbrev N_read : List Str := ["text", "tree"]
abbrev P_read : List Str := ["text"]
theorem sc_read : FnScope N_read P_read (defScope s_read) := ⟨rfl, rfl, rfl, by decide +kernel, rfl, by decide +kernel, by decide +kernel⟩
theorem ck_read : chkSs cc N_read (defScope s_read) b_read (defBody s_read) = true := by decide +kernel
abbrev s_law_alike : Stmt := top 24
abbrev N_law_alike : List Str := ["_law_found", "_law_due", "_law_k"]
abbrev P_law_alike : List Str := ["_law_found", "_law_due"]
theorem sc_law_alike : FnScope N_law_alike P_law_alike (defScope s_law_alike) := ⟨rfl, rfl, rfl, by decide +kernel, rfl, by decide +kernel, by decide +kernel⟩
theorem ck_law_alike : chkSs cc N_law_alike (defScope s_law_alike) b_law_alike (defBody s_law_alike) = true := by decide +kernel
abbrev s_law_text : Stmt := top 29
abbrev N_law_text : List Str := ["_law_tree_here", "_law_kid"]
abbrev P_law_text : List Str := ["_law_tree_here"]
theorem sc_law_text : FnScope N_law_text P_law_text (defScope s_law_text) := ⟨rfl, rfl, rfl, by decide +kernel, rfl, by decide +kernel, by decide +kernel⟩
theorem ck_law_text : chkSs cc N_law_text (defScope s_law_text) b_law_text (defBody s_law_text) = true := by decide +kernel
abbrev s_law_tree : Stmt := top 26
abbrev N_law_tree : List Str := ["_law_box", "_law_letters_here", "_law_most"]
abbrev P_law_tree : List Str := ["_law_box", "_law_letters_here"]
theorem sc_law_tree : FnScope N_law_tree P_law_tree (defScope s_law_tree) := ⟨rfl, rfl, rfl, by decide +kernel, rfl, by decide +kernel, by decide +kernel⟩
theorem ck_law_tree : chkSs cc N_law_tree (defScope s_law_tree) b_law_tree (defBody s_law_tree) = true := by decide +kernel
abbrev s_law_begun : Stmt := top 22
abbrev N_law_begun : List Str := ["_law_script", "_law_stirred", "_law_cell"]
abbrev P_law_begun : List Str := ["_law_script"]
theorem sc_law_begun : FnScope N_law_begun P_law_begun (defScope s_law_begun) := ⟨rfl, rfl, rfl, by decide +kernel, rfl, by decide +kernel, by decide +kernel⟩
theorem ck_law_begun : chkSs cc N_law_begun (defScope s_law_begun) b_law_begun (defBody s_law_begun) = true := by decide +kernel
abbrev s_tree_text : Stmt := top 17
abbrev N_tree_text : List Str := ["tree", "kids", "kid"]
abbrev P_tree_text : List Str := ["tree"]
theorem sc_tree_text : FnScope N_tree_text P_tree_text (defScope s_tree_text) := ⟨rfl, rfl, rfl, by decide +kernel, rfl, by decide +kernel, by decide +kernel⟩
theorem ck_tree_text : chkSs cc N_tree_text (defScope s_tree_text) b_tree_text (defBody s_tree_text) = true := by decide +kernel
abbrev s_need_tree : Stmt := top 11
abbrev N_need_tree : List Str := ["tree", "left", "many", "kids", "place", "part", "k"]
abbrev P_need_tree : List Str := ["tree"]
theorem sc_need_tree : FnScope N_need_tree P_need_tree (defScope s_need_tree) := ⟨rfl, rfl, rfl, by decide +kernel, rfl, by decide +kernel, by decide +kernel⟩
theorem ck_need_tree : chkSs cc N_need_tree (defScope s_need_tree) b_need_tree (defBody s_need_tree) = true := by decide +kernel
abbrev s_Signs_init : Stmt := inClass (top 19) 0
abbrev N_Signs_init : List Str := ["self", "text", "kind"]
abbrev P_Signs_init : List Str := ["self", "text", "kind"]
theorem sc_Signs_init : FnScope N_Signs_init P_Signs_init (defScope s_Signs_init) := ⟨rfl, rfl, rfl, by decide +kernel, rfl, by decide +kernel, by decide +kernel⟩
theorem ck_Signs_init : chkSs cc N_Signs_init (defScope s_Signs_init) b_Signs_init (defBody s_Signs_init) = true := by decide +kernel
abbrev s_Signs_whole : Stmt := inClass (top 19) 5
abbrev N_Signs_whole : List Str := ["self", "found"]
abbrev P_Signs_whole : List Str := ["self"]
theorem sc_Signs_whole : FnScope N_Signs_whole P_Signs_whole (defScope s_Signs_whole) := ⟨rfl, rfl, rfl, by decide +kernel, rfl, by decide +kernel, by decide +kernel⟩
theorem ck_Signs_whole : chkSs cc N_Signs_whole (defScope s_Signs_whole) b_Signs_whole (defBody s_Signs_whole) = true := by decide +kernel
abbrev s_law_grown : Stmt := top 25
abbrev N_law_grown : List Str := ["_law_box", "_law_letters_here", "_law_left", "_law_deep", "_law_kids", "_law_k"]
abbrev P_law_grown : List Str := ["_law_box", "_law_letters_here", "_law_left", "_law_deep"]
theorem sc_law_grown : FnScope N_law_grown P_law_grown (defScope s_law_grown) := ⟨rfl, rfl, rfl, by decide +kernel, rfl, by decide +kernel, by decide +kernel⟩
theorem ck_law_grown : chkSs cc N_law_grown (defScope s_law_grown) b_law_grown (defBody s_law_grown) = true := by decide +kernel
abbrev s_law_take : Stmt := top 23
abbrev N_law_take : List Str := ["_law_box", "_law_many", "_law_number"]
abbrev P_law_take : List Str := ["_law_box", "_law_many"]
theorem sc_law_take : FnScope N_law_take P_law_take (defScope s_law_take) := ⟨rfl, rfl, rfl, by decide +kernel, rfl, by decide +kernel, by decide +kernel⟩
theorem ck_law_take : chkSs cc N_law_take (defScope s_law_take) b_law_take (defBody s_law_take) = true := by decide +kernel
abbrev s_is_node : Stmt := top 10
abbrev N_is_node : List Str := ["tree"]
abbrev P_is_node : List Str := ["tree"]
theorem sc_is_node : FnScope N_is_node P_is_node (defScope s_is_node) := ⟨rfl, rfl, rfl, by decide +kernel, rfl, by decide +kernel, by decide +kernel⟩
theorem ck_is_node : chkSs cc N_is_node (defScope s_is_node) b_is_node (defBody s_is_node) = true := by decide +kernel
abbrev s_Signs_part : Stmt := inClass (top 19) 3
abbrev N_Signs_part : List Str := ["self", "label", "kids"]
abbrev P_Signs_part : List Str := ["self"]
theorem sc_Signs_part : FnScope N_Signs_part P_Signs_part (defScope s_Signs_part) := ⟨rfl, rfl, rfl, by decide +kernel, rfl, by decide +kernel, by decide +kernel⟩
theorem ck_Signs_part : chkSs cc N_Signs_part (defScope s_Signs_part) b_Signs_part (defBody s_Signs_part) = true := by decide +kernel
abbrev s_is_label : Stmt := top 9
abbrev N_is_label : List Str := ["part"]
abbrev P_is_label : List Str := ["part"]
theorem sc_is_label : FnScope N_is_label P_is_label (defScope s_is_label) := ⟨rfl, rfl, rfl, by decide +kernel, rfl, by decide +kernel, by decide +kernel⟩
theorem ck_is_label : chkSs cc N_is_label (defScope s_is_label) b_is_label (defBody s_is_label) = true := by decide +kernel
abbrev s_Signs_here : Stmt := inClass (top 19) 1
abbrev N_Signs_here : List Str := ["self"]
abbrev P_Signs_here : List Str := ["self"]
theorem sc_Signs_here : FnScope N_Signs_here P_Signs_here (defScope s_Signs_here) := ⟨rfl, rfl, rfl, by decide +kernel, rfl, by decide +kernel, by decide +kernel⟩
theorem ck_Signs_here : chkSs cc N_Signs_here (defScope s_Signs_here) b_Signs_here (defBody s_Signs_here) = true := by decide +kernel
abbrev s_Signs_take : Stmt := inClass (top 19) 2
abbrev N_Signs_take : List Str := ["self", "signs", "sign"]
abbrev P_Signs_take : List Str := ["self", "signs"]
theorem sc_Signs_take : FnScope N_Signs_take P_Signs_take (defScope s_Signs_take) := ⟨rfl, rfl, rfl, by decide +kernel, rfl, by decide +kernel, by decide +kernel⟩
theorem ck_Signs_take : chkSs cc N_Signs_take (defScope s_Signs_take) b_Signs_take (defBody s_Signs_take) = true := by decide +kernel
abbrev s_Signs_do : Stmt := inClass (top 19) 4
abbrev N_Signs_do : List Str := ["self", "state", "path"]
abbrev P_Signs_do : List Str := ["self"]
theorem sc_Signs_do : FnScope N_Signs_do P_Signs_do (defScope s_Signs_do) := ⟨rfl, rfl, rfl, by decide +kernel, rfl, by decide +kernel, by decide +kernel⟩
theorem ck_Signs_do : chkSs cc N_Signs_do (defScope s_Signs_do) b_Signs_do (defBody s_Signs_do) = true := by decide +kernel
theorem all_mk {l : PySem.W.OpenLaw} {w : World} {K : PySem.W.Frag} {h : Heap} {mg : Str → Option Value} {fa f0 f1 f2 f3 f4 f5 f6 f7 f8 f9 f10 f11 f12 f13 f14 f15 f16 f17 f18 C0 : Addr} (X : K.In h) (G : h.Ns mainGlobals mg) (hfa : mg "law" = some (.ref fa))
  {od0 an0 od1 an1 od2 an2 od3 an3 od4 an4 od5 an5 od6 an6 od7 an7 od8 an8 od9 an9 od10 an10 od11 an11 od12 an12 od13 an13 od14 an14 od15 an15 od16 an16 od17 an17 od18 an18 : Option Addr} {sl0 sl1 sl2 sl3 sl4 sl5 sl6 sl7 sl8 sl9 sl10 sl11 sl12 sl13 sl14 sl15 sl16 sl17 sl18 : Array (Option Value)} {oc0 kV0 dc0 pm0 cd0 ct0 oc1 kV1 dc1 pm1 cd1 ct1 oc2 kV2 dc2 pm2 cd2 ct2 oc3 kV3 dc3 pm3 cd3 ct3 oc4 kV4 dc4 pm4 cd4 ct4 oc5 kV5 dc5 pm5 cd5 ct5 oc6 kV6 dc6 pm6 cd6 ct6 oc7 kV7 dc7 pm7 cd7 ct7 oc8 kV8 dc8 pm8 cd8 ct8 oc9 kV9 dc9 pm9 cd9 ct9 oc10 kV10 dc10 pm10 cd10 ct10 oc11 kV11 dc11 pm11 cd11 ct11 oc12 kV12 dc12 pm12 cd12 ct12 oc13 kV13 dc13 pm13 cd13 ct13 oc14 kV14 dc14 pm14 cd14 ct14 oc15 kV15 dc15 pm15 cd15 ct15 oc16 kV16 dc16 pm16 cd16 ct16 oc17 kV17 dc17 pm17 cd17 ct17 oc18 kV18 dc18 pm18 cd18 ct18 : Value} {t0 : Tok} {T0 : Addr} {d0 : Option Addr} {nn0 : Nat} {ss0 : Array (Option Value)} {t1 : Tok} {t2 : Tok} {t3 : Tok} {t4 : Tok} {T4 : Addr} {d4 : Option Addr} {nn4 : Nat} {ss4 : Array (Option Value)} {t5 : Tok} {t6 : Tok} {t7 : Tok}
  (aC0 : PySem.W.nsIn K mainGlobals "Signs" = some (some (.ref C0)))
  (pg0 : PySem.W.plainGet K C0 Str.empty = true)
  (hd0 : PySem.W.hasDictIn K C0 = true)
  (po0 : PySem.W.plainOver K C0 = true)
  (sa0 : PySem.W.findIn K (.ref C0) "__setattr__" = some (some (.builtin "object.__setattr__")))
  (mk0 : PySem.W.makesIn K C0 = true)
  (kc0 : PySem.W.keepIn K (.ref C0) = true)
  (n0_0 : PySem.W.findIn K (.ref C0) "kind" = some none)
  (n0_1 : PySem.W.findIn K (.ref C0) "at" = some none)
  (n0_2 : PySem.W.findIn K (.ref C0) "text" = some none)
  (a0 : PySem.W.nsIn K mainGlobals "law" = some (some (.ref f0)))
  (l0 : K.lookup f0 = some ⟨oc0, od0, .func (PySem.W.fnOf "law" "law" (defArgs s_law) (defBody s_law) (defScope s_law) .none kV0 dc0 pm0 an0 cd0 ct0), sl0⟩)
  (c0 : PySem.W.codeIn K cd0 "law" = true)
  (k0 : PySem.W.keepIn K (.ref f0) = true)
  (a1 : PySem.W.nsIn K mainGlobals "written" = some (some (.ref f1)))
  (l1 : K.lookup f1 = some ⟨oc1, od1, .func (PySem.W.fnOf "written" "written" (defArgs s_written) (defBody s_written) (defScope s_written) .none kV1 dc1 pm1 an1 cd1 ct1), sl1⟩)
  (c1 : PySem.W.codeIn K cd1 "written" = true)
  (k1 : PySem.W.keepIn K (.ref f1) = true)
  (a2 : PySem.W.nsIn K mainGlobals "read" = some (some (.ref f2)))
  (l2 : K.lookup f2 = some ⟨oc2, od2, .func (PySem.W.fnOf "read" "read" (defArgs s_read) (defBody s_read) (defScope s_read) .none kV2 dc2 pm2 an2 cd2 ct2), sl2⟩)
  (c2 : PySem.W.codeIn K cd2 "read" = true)
  (k2 : PySem.W.keepIn K (.ref f2) = true)
  (a3 : PySem.W.nsIn K mainGlobals "_law_alike" = some (some (.ref f3)))
  (l3 : K.lookup f3 = some ⟨oc3, od3, .func (PySem.W.fnOf "_law_alike" "_law_alike" (defArgs s_law_alike) (defBody s_law_alike) (defScope s_law_alike) .none kV3 dc3 pm3 an3 cd3 ct3), sl3⟩)
  (c3 : PySem.W.codeIn K cd3 "_law_alike" = true)
  (k3 : PySem.W.keepIn K (.ref f3) = true)
  (a4 : PySem.W.nsIn K mainGlobals "_law_text" = some (some (.ref f4)))
  (l4 : K.lookup f4 = some ⟨oc4, od4, .func (PySem.W.fnOf "_law_text" "_law_text" (defArgs s_law_text) (defBody s_law_text) (defScope s_law_text) .none kV4 dc4 pm4 an4 cd4 ct4), sl4⟩)
  (c4 : PySem.W.codeIn K cd4 "_law_text" = true)
  (k4 : PySem.W.keepIn K (.ref f4) = true)
  (a5 : PySem.W.nsIn K mainGlobals "_law_tree" = some (some (.ref f5)))
  (l5 : K.lookup f5 = some ⟨oc5, od5, .func (PySem.W.fnOf "_law_tree" "_law_tree" (defArgs s_law_tree) (defBody s_law_tree) (defScope s_law_tree) .none kV5 dc5 pm5 an5 cd5 ct5), sl5⟩)
  (c5 : PySem.W.codeIn K cd5 "_law_tree" = true)
  (k5 : PySem.W.keepIn K (.ref f5) = true)
  (a6 : PySem.W.nsIn K mainGlobals "_law_begun" = some (some (.ref f6)))
  (l6 : K.lookup f6 = some ⟨oc6, od6, .func (PySem.W.fnOf "_law_begun" "_law_begun" (defArgs s_law_begun) (defBody s_law_begun) (defScope s_law_begun) .none kV6 dc6 pm6 an6 cd6 ct6), sl6⟩)
  (c6 : PySem.W.codeIn K cd6 "_law_begun" = true)
  (k6 : PySem.W.keepIn K (.ref f6) = true)
  (a7 : PySem.W.nsIn K mainGlobals "tree_text" = some (some (.ref f7)))
  (l7 : K.lookup f7 = some ⟨oc7, od7, .func (PySem.W.fnOf "tree_text" "tree_text" (defArgs s_tree_text) (defBody s_tree_text) (defScope s_tree_text) .none kV7 dc7 pm7 an7 cd7 ct7), sl7⟩)
  (c7 : PySem.W.codeIn K cd7 "tree_text" = true)
  (k7 : PySem.W.keepIn K (.ref f7) = true)
  (a8 : PySem.W.nsIn K mainGlobals "need_tree" = some (some (.ref f8)))
  (l8 : K.lookup f8 = some ⟨oc8, od8, .func (PySem.W.fnOf "need_tree" "need_tree" (defArgs s_need_tree) (defBody s_need_tree) (defScope s_need_tree) .none kV8 dc8 pm8 an8 cd8 ct8), sl8⟩)
  (c8 : PySem.W.codeIn K cd8 "need_tree" = true)
  (k8 : PySem.W.keepIn K (.ref f8) = true)
  (a9 : PySem.W.findIn K (.ref C0) "__init__" = some (some (.ref f9)))
  (i9 : PySem.W.isFn K (.ref f9) = true)
  (l9 : K.lookup f9 = some ⟨oc9, od9, .func (PySem.W.fnOf "__init__" "Signs.__init__" (defArgs s_Signs_init) (defBody s_Signs_init) (defScope s_Signs_init) .none kV9 dc9 pm9 an9 cd9 ct9), sl9⟩)
  (c9 : PySem.W.codeIn K cd9 "Signs.__init__" = true)
  (k9 : PySem.W.keepIn K (.ref f9) = true)
  (a10 : PySem.W.findIn K (.ref C0) "whole" = some (some (.ref f10)))
  (i10 : PySem.W.isFn K (.ref f10) = true)
  (l10 : K.lookup f10 = some ⟨oc10, od10, .func (PySem.W.fnOf "whole" "Signs.whole" (defArgs s_Signs_whole) (defBody s_Signs_whole) (defScope s_Signs_whole) .none kV10 dc10 pm10 an10 cd10 ct10), sl10⟩)
  (c10 : PySem.W.codeIn K cd10 "Signs.whole" = true)
  (k10 : PySem.W.keepIn K (.ref f10) = true)
  (a11 : PySem.W.nsIn K mainGlobals "_law_grown" = some (some (.ref f11)))
  (l11 : K.lookup f11 = some ⟨oc11, od11, .func (PySem.W.fnOf "_law_grown" "_law_grown" (defArgs s_law_grown) (defBody s_law_grown) (defScope s_law_grown) .none kV11 dc11 pm11 an11 cd11 ct11), sl11⟩)
  (c11 : PySem.W.codeIn K cd11 "_law_grown" = true)
  (k11 : PySem.W.keepIn K (.ref f11) = true)
  (a12 : PySem.W.nsIn K mainGlobals "_law_take" = some (some (.ref f12)))
  (l12 : K.lookup f12 = some ⟨oc12, od12, .func (PySem.W.fnOf "_law_take" "_law_take" (defArgs s_law_take) (defBody s_law_take) (defScope s_law_take) .none kV12 dc12 pm12 an12 cd12 ct12), sl12⟩)
  (c12 : PySem.W.codeIn K cd12 "_law_take" = true)
  (k12 : PySem.W.keepIn K (.ref f12) = true)
  (a13 : PySem.W.nsIn K mainGlobals "is_node" = some (some (.ref f13)))
  (l13 : K.lookup f13 = some ⟨oc13, od13, .func (PySem.W.fnOf "is_node" "is_node" (defArgs s_is_node) (defBody s_is_node) (defScope s_is_node) .none kV13 dc13 pm13 an13 cd13 ct13), sl13⟩)
  (c13 : PySem.W.codeIn K cd13 "is_node" = true)
  (k13 : PySem.W.keepIn K (.ref f13) = true)
  (a14 : PySem.W.findIn K (.ref C0) "part" = some (some (.ref f14)))
  (i14 : PySem.W.isFn K (.ref f14) = true)
  (l14 : K.lookup f14 = some ⟨oc14, od14, .func (PySem.W.fnOf "part" "Signs.part" (defArgs s_Signs_part) (defBody s_Signs_part) (defScope s_Signs_part) .none kV14 dc14 pm14 an14 cd14 ct14), sl14⟩)
  (c14 : PySem.W.codeIn K cd14 "Signs.part" = true)
  (k14 : PySem.W.keepIn K (.ref f14) = true)
  (a15 : PySem.W.nsIn K mainGlobals "is_label" = some (some (.ref f15)))
  (l15 : K.lookup f15 = some ⟨oc15, od15, .func (PySem.W.fnOf "is_label" "is_label" (defArgs s_is_label) (defBody s_is_label) (defScope s_is_label) .none kV15 dc15 pm15 an15 cd15 ct15), sl15⟩)
  (c15 : PySem.W.codeIn K cd15 "is_label" = true)
  (k15 : PySem.W.keepIn K (.ref f15) = true)
  (a16 : PySem.W.findIn K (.ref C0) "here" = some (some (.ref f16)))
  (i16 : PySem.W.isFn K (.ref f16) = true)
  (l16 : K.lookup f16 = some ⟨oc16, od16, .func (PySem.W.fnOf "here" "Signs.here" (defArgs s_Signs_here) (defBody s_Signs_here) (defScope s_Signs_here) .none kV16 dc16 pm16 an16 cd16 ct16), sl16⟩)
  (c16 : PySem.W.codeIn K cd16 "Signs.here" = true)
  (k16 : PySem.W.keepIn K (.ref f16) = true)
  (a17 : PySem.W.findIn K (.ref C0) "take" = some (some (.ref f17)))
  (i17 : PySem.W.isFn K (.ref f17) = true)
  (l17 : K.lookup f17 = some ⟨oc17, od17, .func (PySem.W.fnOf "take" "Signs.take" (defArgs s_Signs_take) (defBody s_Signs_take) (defScope s_Signs_take) .none kV17 dc17 pm17 an17 cd17 ct17), sl17⟩)
  (c17 : PySem.W.codeIn K cd17 "Signs.take" = true)
  (k17 : PySem.W.keepIn K (.ref f17) = true)
  (a18 : PySem.W.findIn K (.ref C0) "do" = some (some (.ref f18)))
  (i18 : PySem.W.isFn K (.ref f18) = true)
  (l18 : K.lookup f18 = some ⟨oc18, od18, .func (PySem.W.fnOf "do" "Signs.do" (defArgs s_Signs_do) (defBody s_Signs_do) (defScope s_Signs_do) .none kV18 dc18 pm18 an18 cd18 ct18), sl18⟩)
  (c18 : PySem.W.codeIn K cd18 "Signs.do" = true)
  (k18 : PySem.W.keepIn K (.ref f18) = true)
  (g0 : PySem.W.nsIn K mainGlobals "ANY" = some (some (.ref T0)))
  (h0 : K.lookup T0 = some ⟨.type "tuple", d0, .seq #[.str "any" t0] nn0, ss0⟩)
  (g1 : PySem.W.nsIn K mainGlobals "DO" = some (some (.str "do" t1)))
  (g2 : PySem.W.nsIn K mainGlobals "FIGURES" = some (some (.str "0123456789" t2)))
  (g3 : PySem.W.nsIn K mainGlobals "LABELS" = some (some (.str "abcdef" t3)))
  (g4 : PySem.W.nsIn K mainGlobals "LEAF" = some (some (.ref T4)))
  (h4 : K.lookup T4 = some ⟨.type "tuple", d4, .seq #[.str "leaf" t4] nn4, ss4⟩)
  (g5 : PySem.W.nsIn K mainGlobals "MOST_DEEP" = some (some (.int 12 t5)))
  (g6 : PySem.W.nsIn K mainGlobals "MOST_KIDS" = some (some (.int 3 t6)))
  (g7 : PySem.W.nsIn K mainGlobals "MOST_PLACES" = some (some (.int 60 t7)))
  (z0 : PySem.W.nsIn K mainGlobals "bool" = some none)
  (z1 : PySem.W.nsIn K mainGlobals "int" = some none)
  (z2 : PySem.W.nsIn K mainGlobals "isinstance" = some none)
  (z3 : PySem.W.nsIn K mainGlobals "len" = some none)
  (z4 : PySem.W.nsIn K mainGlobals "list" = some none)
  (z5 : PySem.W.nsIn K mainGlobals "range" = some none)
  (z6 : PySem.W.nsIn K mainGlobals "str" = some none)
  (z7 : PySem.W.nsIn K mainGlobals "tuple" = some none)
  (kmax F : Nat) (hev : ∀ ns : List Int, ns.length ≤ 63 → ∃ st, pr.call F kmax f_law [.fl (ns.map D.int)] [] = .ok (.bl true) st) :
  ∃ fd : FuncData, (∀ (s : Shared) (v : Value), BindsTo s fd ⟨[v], []⟩ [("_law_script", v)]) ∧ ∀ base : Heap, K.In base → base.Ns mainGlobals mg → FnOk l.prog w K mg base (L2.CX l.prog w) (2 * kmax) fa fd ["_law_script"] (Z.spLaw K) := by
  have e := hfa.symm.trans (PySem.W.mg_of X G a0)
  cases e
  have F0 := fun_mk (st := s_law) l0 c0 k0
  have b0 := F0.binds (ps := P_law) fun _ _ _ _ _ _ us hl => match us, hl with | [_], _ => rfl
  have F1 := fun_mk (st := s_written) l1 c1 k1
  have b1 := F1.binds (ps := P_written) fun _ _ _ _ _ _ us hl => match us, hl with | [_], _ => rfl
  have F2 := fun_mk (st := s_read) l2 c2 k2
  have b2 := F2.binds (ps := P_read) fun _ _ _ _ _ _ us hl => match us, hl with | [_], _ => rfl
  have F3 := fun_mk (st := s_law_alike) l3 c3 k3
  have b3 := F3.binds (ps := P_law_alike) fun _ _ _ _ _ _ us hl => match us, hl with | [_, _], _ => rfl
  have F4 := fun_mk (st := s_law_text) l4 c4 k4
  have b4 := F4.binds (ps := P_law_text) fun _ _ _ _ _ _ us hl => match us, hl with | [_], _ => rfl
  have F5 := fun_mk (st := s_law_tree) l5 c5 k5
  have b5 := F5.binds (ps := P_law_tree) fun _ _ _ _ _ _ us hl => match us, hl with | [_, _], _ => rfl
  have F6 := fun_mk (st := s_law_begun) l6 c6 k6
  have b6 := F6.binds (ps := P_law_begun) fun _ _ _ _ _ _ us hl => match us, hl with | [_], _ => rfl
  have F7 := fun_mk (st := s_tree_text) l7 c7 k7
  have b7 := F7.binds (ps := P_tree_text) fun _ _ _ _ _ _ us hl => match us, hl with | [_], _ => rfl
  have F8 := fun_mk (st := s_need_tree) l8 c8 k8
  have b8 := F8.binds (ps := P_need_tree) fun _ _ _ _ _ _ us hl => match us, hl with | [_], _ => rfl
  have F9 := fun_mk (st := s_Signs_init) l9 c9 k9
  have b9 := F9.binds (ps := P_Signs_init) fun _ _ _ _ _ _ us hl => match us, hl with | [_, _, _], _ => rfl
  have F10 := fun_mk (st := s_Signs_whole) l10 c10 k10
  have b10 := F10.binds (ps := P_Signs_whole) fun _ _ _ _ _ _ us hl => match us, hl with | [_], _ => rfl
  have F11 := fun_mk (st := s_law_grown) l11 c11 k11
  have b11 := F11.binds (ps := P_law_grown) fun _ _ _ _ _ _ us hl => match us, hl with | [_, _, _, _], _ => rfl
  have F12 := fun_mk (st := s_law_take) l12 c12 k12
  have b12 := F12.binds (ps := P_law_take) fun _ _ _ _ _ _ us hl => match us, hl with | [_, _], _ => rfl
  have F13 := fun_mk (st := s_is_node) l13 c13 k13
  have b13 := F13.binds (ps := P_is_node) fun _ _ _ _ _ _ us hl => match us, hl with | [_], _ => rfl
  have F14 := fun_mk (st := s_Signs_part) l14 c14 k14
  have b14 := F14.binds (ps := P_Signs_part) fun _ _ _ _ _ _ us hl => match us, hl with | [_], _ => rfl
  have F15 := fun_mk (st := s_is_label) l15 c15 k15
  have b15 := F15.binds (ps := P_is_label) fun _ _ _ _ _ _ us hl => match us, hl with | [_], _ => rfl
  have F16 := fun_mk (st := s_Signs_here) l16 c16 k16
  have b16 := F16.binds (ps := P_Signs_here) fun _ _ _ _ _ _ us hl => match us, hl with | [_], _ => rfl
  have F17 := fun_mk (st := s_Signs_take) l17 c17 k17
  have b17 := F17.binds (ps := P_Signs_take) fun _ _ _ _ _ _ us hl => match us, hl with | [_, _], _ => rfl
  have F18 := fun_mk (st := s_Signs_do) l18 c18 k18
  have b18 := F18.binds (ps := P_Signs_do) fun _ _ _ _ _ _ us hl => match us, hl with | [_], _ => rfl
  refine ⟨PySem.W.fnOf "law" "law" (defArgs s_law) (defBody s_law) (defScope s_law) .none kV0 dc0 pm0 an0 cd0 ct0, fun s v => .of_eq rfl, fun base _ _ => ?_⟩
  let W : Wd := {
    P := l.prog, w := w, K := K, mg := mg, base := base, pr := pr, F := F,
    fa := (fun i => match i with | 0 => fa | 1 => f1 | 2 => f2 | 3 => f3 | 4 => f4 | 5 => f5 | 6 => f6 | 7 => f7 | 8 => f8 | 9 => f9 | 10 => f10 | 11 => f11 | 12 => f12 | 13 => f13 | 14 => f14 | 15 => f15 | 16 => f16 | 17 => f17 | 18 => f18 | _ => fa),
    fd := (fun i => match i with | 0 => PySem.W.fnOf "law" "law" (defArgs s_law) (defBody s_law) (defScope s_law) .none kV0 dc0 pm0 an0 cd0 ct0 | 1 => PySem.W.fnOf "written" "written" (defArgs s_written) (defBody s_written) (defScope s_written) .none kV1 dc1 pm1 an1 cd1 ct1 | 2 => PySem.W.fnOf "read" "read" (defArgs s_read) (defBody s_read) (defScope s_read) .none kV2 dc2 pm2 an2 cd2 ct2 | 3 => PySem.W.fnOf "_law_alike" "_law_alike" (defArgs s_law_alike) (defBody s_law_alike) (defScope s_law_alike) .none kV3 dc3 pm3 an3 cd3 ct3 | 4 => PySem.W.fnOf "_law_text" "_law_text" (defArgs s_law_text) (defBody s_law_text) (defScope s_law_text) .none kV4 dc4 pm4 an4 cd4 ct4 | 5 => PySem.W.fnOf "_law_tree" "_law_tree" (defArgs s_law_tree) (defBody s_law_tree) (defScope s_law_tree) .none kV5 dc5 pm5 an5 cd5 ct5 | 6 => PySem.W.fnOf "_law_begun" "_law_begun" (defArgs s_law_begun) (defBody s_law_begun) (defScope s_law_begun) .none kV6 dc6 pm6 an6 cd6 ct6 | 7 => PySem.W.fnOf "tree_text" "tree_text" (defArgs s_tree_text) (defBody s_tree_text) (defScope s_tree_text) .none kV7 dc7 pm7 an7 cd7 ct7 | 8 => PySem.W.fnOf "need_tree" "need_tree" (defArgs s_need_tree) (defBody s_need_tree) (defScope s_need_tree) .none kV8 dc8 pm8 an8 cd8 ct8 | 9 => PySem.W.fnOf "__init__" "Signs.__init__" (defArgs s_Signs_init) (defBody s_Signs_init) (defScope s_Signs_init) .none kV9 dc9 pm9 an9 cd9 ct9 | 10 => PySem.W.fnOf "whole" "Signs.whole" (defArgs s_Signs_whole) (defBody s_Signs_whole) (defScope s_Signs_whole) .none kV10 dc10 pm10 an10 cd10 ct10 | 11 => PySem.W.fnOf "_law_grown" "_law_grown" (defArgs s_law_grown) (defBody s_law_grown) (defScope s_law_grown) .none kV11 dc11 pm11 an11 cd11 ct11 | 12 => PySem.W.fnOf "_law_take" "_law_take" (defArgs s_law_take) (defBody s_law_take) (defScope s_law_take) .none kV12 dc12 pm12 an12 cd12 ct12 | 13 => PySem.W.fnOf "is_node" "is_node" (defArgs s_is_node) (defBody s_is_node) (defScope s_is_node) .none kV13 dc13 pm13 an13 cd13 ct13 | 14 => PySem.W.fnOf "part" "Signs.part" (defArgs s_Signs_part) (defBody s_Signs_part) (defScope s_Signs_part) .none kV14 dc14 pm14 an14 cd14 ct14 | 15 => PySem.W.fnOf "is_label" "is_label" (defArgs s_is_label) (defBody s_is_label) (defScope s_is_label) .none kV15 dc15 pm15 an15 cd15 ct15 | 16 => PySem.W.fnOf "here" "Signs.here" (defArgs s_Signs_here) (defBody s_Signs_here) (defScope s_Signs_here) .none kV16 dc16 pm16 an16 cd16 ct16 | 17 => PySem.W.fnOf "take" "Signs.take" (defArgs s_Signs_take) (defBody s_Signs_take) (defScope s_Signs_take) .none kV17 dc17 pm17 an17 cd17 ct17 | 18 => PySem.W.fnOf "do" "Signs.do" (defArgs s_Signs_do) (defBody s_Signs_do) (defScope s_Signs_do) .none kV18 dc18 pm18 an18 cd18 ct18 | _ => PySem.W.fnOf "law" "law" (defArgs s_law) (defBody s_law) (defScope s_law) .none kV0 dc0 pm0 an0 cd0 ct0),
    ps := (fun i => match i with | 0 => P_law | 1 => P_written | 2 => P_read | 3 => P_law_alike | 4 => P_law_text | 5 => P_law_tree | 6 => P_law_begun | 7 => P_tree_text | 8 => P_need_tree | 9 => P_Signs_init | 10 => P_Signs_whole | 11 => P_law_grown | 12 => P_law_take | 13 => P_is_node | 14 => P_Signs_part | 15 => P_is_label | 16 => P_Signs_here | 17 => P_Signs_take | 18 => P_Signs_do | _ => []),
    ca := (fun c => match c with | 0 => C0 | _ => fa), ncl := 1 }
  have hdef : ∀ (i : Nat) (fi : FnIR), W.pr.fns[i]? = some fi → DefOk W cc i fi := by
    intro i fi hi
    have hi : fns[i]? = some fi := hi
    match i, hi with
    | 0, hi => cases hi; exact ⟨⟨_, _, s_law, N_law, F0, sc_law, ck_law, rfl, rfl, by decide⟩⟩
    | 1, hi => cases hi; exact ⟨⟨_, _, s_written, N_written, F1, sc_written, ck_written, rfl, rfl, by decide⟩⟩
    | 2, hi => cases hi; exact ⟨⟨_, _, s_read, N_read, F2, sc_read, ck_read, rfl, rfl, by decide⟩⟩
    | 3, hi => cases hi; exact ⟨⟨_, _, s_law_alike, N_law_alike, F3, sc_law_alike, ck_law_alike, rfl, rfl, by decide⟩⟩
    | 4, hi => cases hi; exact ⟨⟨_, _, s_law_text, N_law_text, F4, sc_law_text, ck_law_text, rfl, rfl, by decide⟩⟩
    | 5, hi => cases hi; exact ⟨⟨_, _, s_law_tree, N_law_tree, F5, sc_law_tree, ck_law_tree, rfl, rfl, by decide⟩⟩
    | 6, hi => cases hi; exact ⟨⟨_, _, s_law_begun, N_law_begun, F6, sc_law_begun, ck_law_begun, rfl, rfl, by decide⟩⟩
    | 7, hi => cases hi; exact ⟨⟨_, _, s_tree_text, N_tree_text, F7, sc_tree_text, ck_tree_text, rfl, rfl, by decide⟩⟩
    | 8, hi => cases hi; exact ⟨⟨_, _, s_need_tree, N_need_tree, F8, sc_need_tree, ck_need_tree, rfl, rfl, by decide⟩⟩
    | 9, hi => cases hi; exact ⟨⟨_, _, s_Signs_init, N_Signs_init, F9, sc_Signs_init, ck_Signs_init, rfl, rfl, by decide⟩⟩
    | 10, hi => cases hi; exact ⟨⟨_, _, s_Signs_whole, N_Signs_whole, F10, sc_Signs_whole, ck_Signs_whole, rfl, rfl, by decide⟩⟩
    | 11, hi => cases hi; exact ⟨⟨_, _, s_law_grown, N_law_grown, F11, sc_law_grown, ck_law_grown, rfl, rfl, by decide⟩⟩
    | 12, hi => cases hi; exact ⟨⟨_, _, s_law_take, N_law_take, F12, sc_law_take, ck_law_take, rfl, rfl, by decide⟩⟩
    | 13, hi => cases hi; exact ⟨⟨_, _, s_is_node, N_is_node, F13, sc_is_node, ck_is_node, rfl, rfl, by decide⟩⟩
    | 14, hi => cases hi; exact ⟨⟨_, _, s_Signs_part, N_Signs_part, F14, sc_Signs_part, ck_Signs_part, rfl, rfl, by decide⟩⟩
    | 15, hi => cases hi; exact ⟨⟨_, _, s_is_label, N_is_label, F15, sc_is_label, ck_is_label, rfl, rfl, by decide⟩⟩
    | 16, hi => cases hi; exact ⟨⟨_, _, s_Signs_here, N_Signs_here, F16, sc_Signs_here, ck_Signs_here, rfl, rfl, by decide⟩⟩
    | 17, hi => cases hi; exact ⟨⟨_, _, s_Signs_take, N_Signs_take, F17, sc_Signs_take, ck_Signs_take, rfl, rfl, by decide⟩⟩
    | 18, hi => cases hi; exact ⟨⟨_, _, s_Signs_do, N_Signs_do, F18, sc_Signs_do, ck_Signs_do, rfl, rfl, by decide⟩⟩
    | i + 19, hi => cases hi
  have hW : WOk W cc := by
    constructor
    · intro x i hx
      have hx : List.lookup x [(("law" : Str), f_law), (("written" : Str), f_written), (("read" : Str), f_read), (("_law_alike" : Str), f_law_alike), (("_law_text" : Str), f_law_text), (("_law_tree" : Str), f_law_tree), (("_law_begun" : Str), f_law_begun), (("tree_text" : Str), f_tree_text), (("need_tree" : Str), f_need_tree), (("_law_grown" : Str), f_law_grown), (("_law_take" : Str), f_law_take), (("is_node" : Str), f_is_node), (("is_label" : Str), f_is_label)] = some i := hx
      rw [lookupP] at hx; by_cases hq : x = ("law" : Str)
      · rw [if_pos hq] at hx; cases hx; subst hq; exact ⟨PySem.W.mg_of X G a0, k0, _, rfl⟩
      rw [if_neg hq] at hx; clear hq
      rw [lookupP] at hx; by_cases hq : x = ("written" : Str)
      · rw [if_pos hq] at hx; cases hx; subst hq; exact ⟨PySem.W.mg_of X G a1, k1, _, rfl⟩
      rw [if_neg hq] at hx; clear hq
      rw [lookupP] at hx; by_cases hq : x = ("read" : Str)
      · rw [if_pos hq] at hx; cases hx; subst hq; exact ⟨PySem.W.mg_of X G a2, k2, _, rfl⟩
      rw [if_neg hq] at hx; clear hq
      rw [lookupP] at hx; by_cases hq : x = ("_law_alike" : Str)
      · rw [if_pos hq] at hx; cases hx; subst hq; exact ⟨PySem.W.mg_of X G a3, k3, _, rfl⟩
      rw [if_neg hq] at hx; clear hq
      rw [lookupP] at hx; by_cases hq : x = ("_law_text" : Str)
      · rw [if_pos hq] at hx; cases hx; subst hq; exact ⟨PySem.W.mg_of X G a4, k4, _, rfl⟩
      rw [if_neg hq] at hx; clear hq
      rw [lookupP] at hx; by_cases hq : x = ("_law_tree" : Str)
      · rw [if_pos hq] at hx; cases hx; subst hq; exact ⟨PySem.W.mg_of X G a5, k5, _, rfl⟩
      rw [if_neg hq] at hx; clear hq
      rw [lookupP] at hx; by_cases hq : x = ("_law_begun" : Str)
      · rw [if_pos hq] at hx; cases hx; subst hq; exact ⟨PySem.W.mg_of X G a6, k6, _, rfl⟩
      rw [if_neg hq] at hx; clear hq
      rw [lookupP] at hx; by_cases hq : x = ("tree_text" : Str)
      · rw [if_pos hq] at hx; cases hx; subst hq; exact ⟨PySem.W.mg_of X G a7, k7, _, rfl⟩
      rw [if_neg hq] at hx; clear hq
      rw [lookupP] at hx; by_cases hq : x = ("need_tree" : Str)
      · rw [if_pos hq] at hx; cases hx; subst hq; exact ⟨PySem.W.mg_of X G a8, k8, _, rfl⟩
      rw [if_neg hq] at hx; clear hq
      rw [lookupP] at hx; by_cases hq : x = ("_law_grown" : Str)
      · rw [if_pos hq] at hx; cases hx; subst hq; exact ⟨PySem.W.mg_of X G a11, k11, _, rfl⟩
      rw [if_neg hq] at hx; clear hq
      rw [lookupP] at hx; by_cases hq : x = ("_law_take" : Str)
      · rw [if_pos hq] at hx; cases hx; subst hq; exact ⟨PySem.W.mg_of X G a12, k12, _, rfl⟩
      rw [if_neg hq] at hx; clear hq
      rw [lookupP] at hx; by_cases hq : x = ("is_node" : Str)
      · rw [if_pos hq] at hx; cases hx; subst hq; exact ⟨PySem.W.mg_of X G a13, k13, _, rfl⟩
      rw [if_neg hq] at hx; clear hq
      rw [lookupP] at hx; by_cases hq : x = ("is_label" : Str)
      · rw [if_pos hq] at hx; cases hx; subst hq; exact ⟨PySem.W.mg_of X G a15, k15, _, rfl⟩
      rw [if_neg hq] at hx; clear hq
      cases hx
    · intro i fi hi
      have hi : fns[i]? = some fi := hi
      match i, hi with
      | 0, hi => cases hi; exact ⟨b0, rfl⟩
      | 1, hi => cases hi; exact ⟨b1, rfl⟩
      | 2, hi => cases hi; exact ⟨b2, rfl⟩
      | 3, hi => cases hi; exact ⟨b3, rfl⟩
      | 4, hi => cases hi; exact ⟨b4, rfl⟩
      | 5, hi => cases hi; exact ⟨b5, rfl⟩
      | 6, hi => cases hi; exact ⟨b6, rfl⟩
      | 7, hi => cases hi; exact ⟨b7, rfl⟩
      | 8, hi => cases hi; exact ⟨b8, rfl⟩
      | 9, hi => cases hi; exact ⟨b9, rfl⟩
      | 10, hi => cases hi; exact ⟨b10, rfl⟩
      | 11, hi => cases hi; exact ⟨b11, rfl⟩
      | 12, hi => cases hi; exact ⟨b12, rfl⟩
      | 13, hi => cases hi; exact ⟨b13, rfl⟩
      | 14, hi => cases hi; exact ⟨b14, rfl⟩
      | 15, hi => cases hi; exact ⟨b15, rfl⟩
      | 16, hi => cases hi; exact ⟨b16, rfl⟩
      | 17, hi => cases hi; exact ⟨b17, rfl⟩
      | 18, hi => cases hi; exact ⟨b18, rfl⟩
      | i + 19, hi => cases hi
    · intro x d hx
      have hx : List.lookup x [(("ANY" : Str), g_ANY), (("DO" : Str), g_DO), (("FIGURES" : Str), g_FIGURES), (("LABELS" : Str), g_LABELS), (("LEAF" : Str), g_LEAF), (("MOST_DEEP" : Str), g_MOST_DEEP), (("MOST_KIDS" : Str), g_MOST_KIDS), (("MOST_PLACES" : Str), g_MOST_PLACES)] = some d := hx
      rw [lookupP] at hx; by_cases hq : x = ("ANY" : Str)
      · rw [if_pos hq] at hx; cases hx; subst hq
        refine ⟨_, .ref T0, PySem.W.mg_of X G g0, rfl, fun H m => ?_⟩
        rw [Rp]; refine ⟨T0, [.str "any"], rfl, .inr ⟨_, _, _, h0, rfl, rfl, (by show 1 ≤ sizeLine; decide), .cons ⟨t0, rfl⟩ .nil⟩, ?_⟩
        rw [Rps]; exact ⟨_, _, rfl, (by first | (rw [Rp]; done) | (rw [Rp]; rfl)), by rw [Rps]⟩
      rw [if_neg hq] at hx; clear hq
      rw [lookupP] at hx; by_cases hq : x = ("DO" : Str)
      · rw [if_pos hq] at hx; cases hx; subst hq
        exact ⟨_, .str "do", PySem.W.mg_of X G g1, ⟨t1, rfl⟩, fun H m => by first | (rw [Rp]; done) | (rw [Rp]; rfl)⟩
      rw [if_neg hq] at hx; clear hq
      rw [lookupP] at hx; by_cases hq : x = ("FIGURES" : Str)
      · rw [if_pos hq] at hx; cases hx; subst hq
        exact ⟨_, .str "0123456789", PySem.W.mg_of X G g2, ⟨t2, rfl⟩, fun H m => by first | (rw [Rp]; done) | (rw [Rp]; rfl)⟩
      rw [if_neg hq] at hx; clear hq
      rw [lookupP] at hx; by_cases hq : x = ("LABELS" : Str)
      · rw [if_pos hq] at hx; cases hx; subst hq
        exact ⟨_, .str "abcdef", PySem.W.mg_of X G g3, ⟨t3, rfl⟩, fun H m => by first | (rw [Rp]; done) | (rw [Rp]; rfl)⟩
      rw [if_neg hq] at hx; clear hq
      rw [lookupP] at hx; by_cases hq : x = ("LEAF" : Str)
      · rw [if_pos hq] at hx; cases hx; subst hq
        refine ⟨_, .ref T4, PySem.W.mg_of X G g4, rfl, fun H m => ?_⟩
        rw [Rp]; refine ⟨T4, [.str "leaf"], rfl, .inr ⟨_, _, _, h4, rfl, rfl, (by show 1 ≤ sizeLine; decide), .cons ⟨t4, rfl⟩ .nil⟩, ?_⟩
        rw [Rps]; exact ⟨_, _, rfl, (by first | (rw [Rp]; done) | (rw [Rp]; rfl)), by rw [Rps]⟩
      rw [if_neg hq] at hx; clear hq
      rw [lookupP] at hx; by_cases hq : x = ("MOST_DEEP" : Str)
      · rw [if_pos hq] at hx; cases hx; subst hq
        exact ⟨_, .int 12, PySem.W.mg_of X G g5, ⟨t5, rfl⟩, fun H m => by first | (rw [Rp]; done) | (rw [Rp]; rfl)⟩
      rw [if_neg hq] at hx; clear hq
      rw [lookupP] at hx; by_cases hq : x = ("MOST_KIDS" : Str)
      · rw [if_pos hq] at hx; cases hx; subst hq
        exact ⟨_, .int 3, PySem.W.mg_of X G g6, ⟨t6, rfl⟩, fun H m => by first | (rw [Rp]; done) | (rw [Rp]; rfl)⟩
      rw [if_neg hq] at hx; clear hq
      rw [lookupP] at hx; by_cases hq : x = ("MOST_PLACES" : Str)
      · rw [if_pos hq] at hx; cases hx; subst hq
        exact ⟨_, .int 60, PySem.W.mg_of X G g7, ⟨t7, rfl⟩, fun H m => by first | (rw [Rp]; done) | (rw [Rp]; rfl)⟩
      rw [if_neg hq] at hx; clear hq
      cases hx
    · intro x hx
      have hx : x ∈ [("bool" : Str), ("int" : Str), ("isinstance" : Str), ("len" : Str), ("list" : Str), ("range" : Str), ("str" : Str), ("tuple" : Str)] := hx
      simp only [List.mem_cons, List.not_mem_nil, or_false] at hx
      rcases hx with rfl | rfl | rfl | rfl | rfl | rfl | rfl | rfl
      · exact PySem.W.mg_none_of X G z0
      · exact PySem.W.mg_none_of X G z1
      · exact PySem.W.mg_none_of X G z2
      · exact PySem.W.mg_none_of X G z3
      · exact PySem.W.mg_none_of X G z4
      · exact PySem.W.mg_none_of X G z5
      · exact PySem.W.mg_none_of X G z6
      · exact PySem.W.mg_none_of X G z7
    · intro x c hx
      have hx : List.lookup x [(("Signs" : Str), c_Signs)] = some c := hx
      rw [lookupP] at hx; by_cases hq : x = ("Signs" : Str)
      · rw [if_pos hq] at hx; cases hx; subst hq; exact ⟨PySem.W.mg_of X G aC0, (by show 0 < 1; decide), _, rfl⟩
      rw [if_neg hq] at hx; clear hq
      cases hx
    · intro c hc
      have hc : c < 1 := hc
      match c, hc with
      | 0, _ => exact ⟨pg0, hd0, po0, sa0⟩
      | c + 1, hc => exact absurd hc (by omega)
    · intro c f hc hf
      have hc : c < 1 := hc
      have hf : f ∈ [("kind" : Str), ("at" : Str), ("text" : Str)] := hf
      simp only [List.mem_cons, List.not_mem_nil, or_false] at hf
      match c, hc with
      | 0, _ =>
        rcases hf with rfl | rfl | rfl
        · exact n0_0
        · exact n0_1
        · exact n0_2
      | c + 1, hc => exact absurd hc (by omega)
    · intro c f hf
      have hf : ini c = some f := hf
      match c, hf with
      | 0, hf => cases hf; exact ⟨⟨mk0, a9, i9, kc0⟩, _, rfl⟩
      | c + 1, hf => cases hf
    · intro x mi c f hx hc hf
      have hc : c < 1 := hc
      have hx : List.lookup x [(("whole" : Str), m_whole), (("part" : Str), m_part), (("here" : Str), m_here), (("take" : Str), m_take), (("do" : Str), m_do)] = some mi := hx
      have hf : meth c mi = some f := hf
      rw [lookupP] at hx; by_cases hq : x = ("whole" : Str)
      · rw [if_pos hq] at hx; cases hx; subst hq
        match c, hc, hf with
        | 0, _, hf => cases hf; exact ⟨⟨a10, i10, k10⟩, _, rfl⟩
        | c + 1, hc, _ => exact absurd hc (by omega)
      rw [if_neg hq] at hx; clear hq
      rw [lookupP] at hx; by_cases hq : x = ("part" : Str)
      · rw [if_pos hq] at hx; cases hx; subst hq
        match c, hc, hf with
        | 0, _, hf => cases hf; exact ⟨⟨a14, i14, k14⟩, _, rfl⟩
        | c + 1, hc, _ => exact absurd hc (by omega)
      rw [if_neg hq] at hx; clear hq
      rw [lookupP] at hx; by_cases hq : x = ("here" : Str)
      · rw [if_pos hq] at hx; cases hx; subst hq
        match c, hc, hf with
        | 0, _, hf => cases hf; exact ⟨⟨a16, i16, k16⟩, _, rfl⟩
        | c + 1, hc, _ => exact absurd hc (by omega)
      rw [if_neg hq] at hx; clear hq
      rw [lookupP] at hx; by_cases hq : x = ("take" : Str)
      · rw [if_pos hq] at hx; cases hx; subst hq
        match c, hc, hf with
        | 0, _, hf => cases hf; exact ⟨⟨a17, i17, k17⟩, _, rfl⟩
        | c + 1, hc, _ => exact absurd hc (by omega)
      rw [if_neg hq] at hx; clear hq
      rw [lookupP] at hx; by_cases hq : x = ("do" : Str)
      · rw [if_pos hq] at hx; cases hx; subst hq
        match c, hc, hf with
        | 0, _, hf => cases hf; exact ⟨⟨a18, i18, k18⟩, _, rfl⟩
        | c + 1, hc, _ => exact absurd hc (by omega)
      rw [if_neg hq] at hx; clear hq
      cases hx
  exact Z.law_ok (W := W) (lv_all hW hdef kmax) (i := f_law) (fi := ⟨1, 5, b_law⟩) rfl rfl hev
theorem walk {l : PySem.W.OpenLaw} {kmax : Nat} {q : Program} {loose : List Str} {XP : (Str → Option Value) → Heap → Prop} {YP : World → Heap → Prop} {d : DefRec} {K : Params → PySem.W.Frag} (hr : Room (2 * kmax) callerA) (hn : l.most = some 63) (hdf : d.params.defaults = [])
    (hY : ∀ (w : World) (h : Heap), YP w h → (K w.params).In h)
    (F : ∀ (w : World) (mg : Str → Option Value) (fa : Addr) (h : Heap), (K w.params).In h → h.Ns mainGlobals mg → mg d.name = some (.ref fa) →
      ∃ fd : FuncData, (∀ (s : Shared) (u : Value), BindsTo s fd ⟨[u], []⟩ [("_law_script", u)]) ∧ ∀ base : Heap, (K w.params).In base → base.Ns mainGlobals mg → FnOk l.prog w (K w.params) mg base (L2.CX l.prog w) (2 * kmax) fa fd ["_law_script"] (Z.spLaw (K w.params))) :
    PySem.W.WalkO q loose XP YP l.row.toRowW d [] (fun f vs => PySem.call f vs) :=
  L2.walk_of (n := 63) (k := 2 * kmax) (x := "_law_script") (CX := fun w => L2.CX l.prog w) (sp := fun w => Z.spLaw (K w.params)) hn (by decide) hdf hr hY F (fun _ _ a ns hl ho hS => ⟨a, ns, rfl, ho, hS, hl, fun _ => rfl⟩) fun _ _ _ _ _ z => by
    obtain ⟨_, _, _, _, _, _, _, _, _, _, _, _, z⟩ := z
    exact z
end Law
open PySem PySem.W PyProof.Rows
theorem PySem.Challenge.cw_treetellers_k19_trees_written_holds : PySem.Challenge.rw_treetellers_k19_trees_written.Holds := by
  w_on; o_law; k_head; (case hw => w_witness2)
  k_fill
  refine Law.walk (kmax := Law.KMAX) (l := PySem.Challenge.rw_treetellers_k19_trees_written) ⟨rfl, by decide, by decide⟩ rfl rfl (fun w h Y => PySem.W.kIn_of Y) ?F
  case F =>
    intro w mg fa h KX G hmg
    refine' Law.all_mk KX G hmg ?zq_aC0 ?zq_pg0 ?zq_hd0 ?zq_po0 ?zq_sa0 ?zq_mk0 ?zq_kc0 ?zq_n0_0 ?zq_n0_1 ?zq_n0_2 ?zq_a0 ?zq_l0 ?zq_c0 ?zq_k0 ?zq_a1 ?zq_l1 ?zq_c1 ?zq_k1 ?zq_a2 ?zq_l2 ?zq_c2 ?zq_k2 ?zq_a3 ?zq_l3 ?zq_c3 ?zq_k3 ?zq_a4 ?zq_l4 ?zq_c4 ?zq_k4 ?zq_a5 ?zq_l5 ?zq_c5 ?zq_k5 ?zq_a6 ?zq_l6 ?zq_c6 ?zq_k6 ?zq_a7 ?zq_l7 ?zq_c7 ?zq_k7 ?zq_a8 ?zq_l8 ?zq_c8 ?zq_k8 ?zq_a9 ?zq_i9 ?zq_l9 ?zq_c9 ?zq_k9 ?zq_a10 ?zq_i10 ?zq_l10 ?zq_c10 ?zq_k10 ?zq_a11 ?zq_l11 ?zq_c11 ?zq_k11 ?zq_a12 ?zq_l12 ?zq_c12 ?zq_k12 ?zq_a13 ?zq_l13 ?zq_c13 ?zq_k13 ?zq_a14 ?zq_i14 ?zq_l14 ?zq_c14 ?zq_k14 ?zq_a15 ?zq_l15 ?zq_c15 ?zq_k15 ?zq_a16 ?zq_i16 ?zq_l16 ?zq_c16 ?zq_k16 ?zq_a17 ?zq_i17 ?zq_l17 ?zq_c17 ?zq_k17 ?zq_a18 ?zq_i18 ?zq_l18 ?zq_c18 ?zq_k18 ?zq_g0 ?zq_h0 ?zq_g1 ?zq_g2 ?zq_g3 ?zq_g4 ?zq_h4 ?zq_g5 ?zq_g6 ?zq_g7 ?zq_z0 ?zq_z1 ?zq_z2 ?zq_z3 ?zq_z4 ?zq_z5 ?zq_z6 ?zq_z7 Law.KMAX Law.FUEL Law.law_ev
    (case zq_aC0 => k_is); (case zq_pg0 => k_is); (case zq_hd0 => k_is); (case zq_po0 => k_is); (case zq_sa0 => k_is); (case zq_mk0 => k_is)
    (case zq_kc0 => k_is); (case zq_n0_0 => k_is); (case zq_n0_1 => k_is); (case zq_n0_2 => k_is); (case zq_a0 => k_is); (case zq_l0 => k_is)
    (case zq_c0 => k_is); (case zq_k0 => k_is); (case zq_a1 => k_is); (case zq_l1 => k_is); (case zq_c1 => k_is); (case zq_k1 => k_is)
    (case zq_a2 => k_is); (case zq_l2 => k_is); (case zq_c2 => k_is); (case zq_k2 => k_is); (case zq_a3 => k_is); (case zq_l3 => k_is)
    (case zq_c3 => k_is); (case zq_k3 => k_is); (case zq_a4 => k_is); (case zq_l4 => k_is); (case zq_c4 => k_is); (case zq_k4 => k_is)
    (case zq_a5 => k_is); (case zq_l5 => k_is); (case zq_c5 => k_is); (case zq_k5 => k_is); (case zq_a6 => k_is); (case zq_l6 => k_is)
    (case zq_c6 => k_is); (case zq_k6 => k_is); (case zq_a7 => k_is); (case zq_l7 => k_is); (case zq_c7 => k_is); (case zq_k7 => k_is)
    (case zq_a8 => k_is); (case zq_l8 => k_is); (case zq_c8 => k_is); (case zq_k8 => k_is); (case zq_a9 => k_is); (case zq_i9 => k_is)
    (case zq_l9 => k_is); (case zq_c9 => k_is); (case zq_k9 => k_is); (case zq_a10 => k_is); (case zq_i10 => k_is); (case zq_l10 => k_is)
    (case zq_c10 => k_is); (case zq_k10 => k_is); (case zq_a11 => k_is); (case zq_l11 => k_is); (case zq_c11 => k_is); (case zq_k11 => k_is)
    (case zq_a12 => k_is); (case zq_l12 => k_is); (case zq_c12 => k_is); (case zq_k12 => k_is); (case zq_a13 => k_is); (case zq_l13 => k_is)
    (case zq_c13 => k_is); (case zq_k13 => k_is); (case zq_a14 => k_is); (case zq_i14 => k_is); (case zq_l14 => k_is); (case zq_c14 => k_is)
    (case zq_k14 => k_is); (case zq_a15 => k_is); (case zq_l15 => k_is); (case zq_c15 => k_is); (case zq_k15 => k_is); (case zq_a16 => k_is)
    (case zq_i16 => k_is); (case zq_l16 => k_is); (case zq_c16 => k_is); (case zq_k16 => k_is); (case zq_a17 => k_is); (case zq_i17 => k_is)
    (case zq_l17 => k_is); (case zq_c17 => k_is); (case zq_k17 => k_is); (case zq_a18 => k_is); (case zq_i18 => k_is); (case zq_l18 => k_is)
    (case zq_c18 => k_is); (case zq_k18 => k_is); (case zq_g0 => k_is); (case zq_h0 => k_is); (case zq_g1 => k_is); (case zq_g2 => k_is)
    (case zq_g3 => k_is); (case zq_g4 => k_is); (case zq_h4 => k_is); (case zq_g5 => k_is); (case zq_g6 => k_is); (case zq_g7 => k_is)
    (case zq_z0 => k_is); (case zq_z1 => k_is); (case zq_z2 => k_is); (case zq_z3 => k_is); (case zq_z4 => k_is); (case zq_z5 => k_is)
    (case zq_z6 => k_is); (case zq_z7 => k_is)
