import PyProof.Rows.All
import HandS.ForMost
import HandS.StrMore
import HandS.Lambda
import HandS.ExcCtx
import HandS.Wide
import HandS.TupAny
import HandS.TupMul
import HandS.Deep
import HandS.IsInst
import HandS.RaiseMore
import HandS.HotCalls
import HandS.Style
import KE.GoesMore
import KE.GoesEnum
import HandS.Words
import HandS.ExcIs
import HandS.Iter
import HandS.ExcInitHot
import HandS.ExcBuiltin
import HandS.EndTab
import PySem.Challenge.RW_openfolds_k05_whole_lines_that_are_one
set_option Elab.async false
set_option linter.all false
set_option maxRecDepth 100000
/-! SemA: a small language of our own for the defs of the texts, and its evaluator over plain data. -/
namespace Fo
open PySem

abbrev D := PyData

/-- a run's end: a value; an exception of the class with this number; nothing is said -/
inductive R (α : Type) where
  | ok (a : α)
  | exc (c : Nat)
  | bad

@[inline] def R.bind {α β : Type} (r : R α) (f : α → R β) : R β :=
  match r with
  | .ok a => f a
  | .exc c => .exc c
  | .bad => .bad

theorem R.bind_assoc {α β γ : Type} (r : R α) (f : α → R β) (g : β → R γ) : (r.bind f).bind g = r.bind fun a => (f a).bind g := by cases r <;> rfl

/-- a slot: empty; a value; a list or a dict of one's own -/
inductive Sl where
  | no
  | val (d : D)
  | own (d : D)

abbrev Rho := List Sl

inductive BOp where
  | add | sub | mul | fdiv | mod | pow
inductive COp where
  | eq | ne | lt | le | gt | ge | isin | notin
inductive Ty where
  | int | bool | str | tuple | list
inductive ItK where
  | seq | rng1 | rng2 | enum | zip
inductive Bi where
  | len | abs | int | str | list | tuple | all | any | bool | min2 | sset | lset | minl | sorted
inductive Me where
  | split | join | index
inductive Tg where
  | name (i : Nat)
  | nil
  | cons (t r : Tg)

inductive Ex where
  | var (i : Nat)
  | cst (d : D)
  | glb (k : Nat)
  | bin (o : BOp) (a b : Ex)
  | cmp (o : COp) (a b : Ex)
  | chain (o p : COp) (a b c : Ex)
  | isN (neg : Bool) (a : Ex)
  | isB (neg b : Bool) (a : Ex)
  | rev (a : Ex)
  | and (a b : Ex)
  | or (a b : Ex)
  | not (a : Ex)
  | tru (a : Ex)
  | neg (a : Ex)
  | ite (c a b : Ex)
  | nil
  | cons (a r : Ex)
  | tup (as : Ex)
  | lst (as : Ex)
  | lrep (as : Ex) (n : Nat)
  | ix (a b : Ex)
  | sl (a lo hi : Ex)
  | call (f : Nat) (as : Ex)
  | callIo (f : Nat) (i : Nat) (as : Ex)
  | bi (b : Bi) (as : Ex)
  | isi (a : Ex) (t : Ty)
  | lc (t : Tg) (k : ItK) (s c e : Ex)
  | lc2 (t : Tg) (k : ItK) (s : Ex) (t2 : Tg) (k2 : ItK) (s2 e : Ex)
  | pop (i : Nat)
  | dict (ks : List Str) (vs : Ex)
  | dix (ks : List Str) (vs k : Ex)
  | dget (i : Nat) (k : Ex)
  | dgetN (i : Nat) (k : Ex)
  | dgetD (i : Nat) (k d : Ex)
  | din (i : Nat) (k : Ex)
  | mth (m : Me) (a as : Ex)
  | lam (f : Nat) (b : Ex)

inductive Sx where
  | skip
  | seq (s r : Sx)
  | set (t : Tg) (e : Ex)
  | par (is : List Nat) (as : Ex)
  | own (i : Nat) (e : Ex)
  | app (i : Nat) (e : Ex)
  | put (i : Nat) (k e : Ex)
  | dput (i : Nat) (k e : Ex)
  | ex (e : Ex)
  | ret (e : Ex)
  | retO (i : Nat)
  | retN
  | cond (c : Ex) (a b : Sx)
  | loop (t : Tg) (k : ItK) (s : Ex) (b : Sx)
  | while (c : Ex) (b : Sx)
  | raise (c : Nat)

/-- np parameters, ns slots; io: the first parameter is a list that the def changes; own: it hands back a list that is new -/
structure Df where
  np : Nat
  ns : Nat
  io : Bool
  own : Bool
  body : Sx

def ofOpt {α : Type} : Option α → R α
  | some a => .ok a
  | none => .bad

/-! ### operations on data -/
abbrev line : Nat := 16777216
def b2 (x : Bool) : Option D := some (.bool x)
def mulOk (i j : Int) : Bool := (decide (-(2 ^ 64) < i) && decide (i < 2 ^ 64)) || (decide (-(2 ^ 64) < j) && decide (j < 2 ^ 64))
def divOk (i j : Int) : Bool := (decide (j ≠ 0) && decide (j.natAbs < 1073741824)) || (decide (0 < j) && decide (j.natAbs < 2 ^ 4000))
def reps {α : Type} (k : Nat) (xs : List α) : List α := (List.replicate k xs).flatten

def binD : BOp → D → D → Option D
  | .add, .int a, .int b => some (.int (a + b))
  | .add, .str a, .str b => if a.length + b.length ≤ line then some (.str (a ++ b)) else none
  | .add, .tuple a, .tuple b => if a.length + b.length ≤ line then some (.tuple (a ++ b)) else none
  | .add, .list a, .list b => if a.length + b.length ≤ line then some (.list (a ++ b)) else none
  | .add, .bool a, .int b => some (.int ((if a = true then (1 : Int) else 0) + b))
  | .sub, .int a, .int b => some (.int (a - b))
  | .sub, .bool a, .int b => some (.int ((if a = true then (1 : Int) else 0) - b))
  | .sub, .bool a, .bool b => some (.int ((if a = true then (1 : Int) else 0) - (if b = true then (1 : Int) else 0)))
  | .mul, .int a, .int b => if mulOk a b = true then some (.int (a * b)) else none
  | .mul, .str a, .int k => if 2 ≤ k ∧ k ≤ 1000 ∧ 1 ≤ a.length ∧ a.length ≤ 1000 then some (.str (Txt.mul a k)) else none
  | .mul, .tuple a, .int k => if a ≠ [] ∧ 2 ≤ k ∧ k ≤ 1000 ∧ a.length ≤ 1000 then some (.tuple (reps k.toNat a)) else none
  | .fdiv, .int a, .int b => if divOk a b = true then some (.int (a.fdiv b)) else none
  | .mod, .int a, .int b => if b ≠ 0 then some (.int (a.fmod b)) else none
  | .pow, .int a, .int b => if 0 ≤ b ∧ b ≤ 1000000 ∧ a.natAbs < 2 ^ 64 then some (.int (a ^ b.toNat)) else none
  | _, _, _ => none

def scalD : D → Bool
  | .none | .int _ | .str _ => true
  | _ => false
def eqOk (d e : D) : Bool := (scalD d && scalD e) || (SeqAt.shaped d && SeqAt.shaped e)
def inOk (d : D) (xs : List D) : Bool := SeqAt.shaped d && SeqAt.shaped (.list xs)

def cmpD : COp → D → D → Option D
  | .eq, a, b => if eqOk a b = true then b2 (PyData.eqv a b) else none
  | .ne, a, b => if eqOk a b = true then b2 (!PyData.eqv a b) else none
  | .lt, .int a, .int b => b2 (decide (a < b))
  | .le, .int a, .int b => b2 (decide (a ≤ b))
  | .gt, .int a, .int b => b2 (decide (b < a))
  | .ge, .int a, .int b => b2 (decide (b ≤ a))
  | .isin, .str a, .str b => b2 (!(Builtin.Str.occurrences b a 0 b.length 1).isEmpty)
  | .isin, d, .tuple xs => if inOk d xs = true then b2 (xs.any fun z => PyData.eqv z d) else none
  | .isin, d, .list xs => if inOk d xs = true then b2 (xs.any fun z => PyData.eqv z d) else none
  | .notin, d, .tuple xs => if inOk d xs = true then b2 (!xs.any fun z => PyData.eqv z d) else none
  | .notin, d, .list xs => if inOk d xs = true then b2 (!xs.any fun z => PyData.eqv z d) else none
  | _, _, _ => none

def truthD : D → Option Bool
  | .none => some false
  | .bool b => some b
  | .int i => some (i != 0)
  | .str s => if s.length ≤ line then some ((s.length : Int) != 0) else none
  | .list xs => some (!xs.isEmpty)
  | .tuple xs => some (!xs.isEmpty)
  | _ => none

def isD : D → Ty → Option D
  | .none, _ => b2 false
  | .bool _, .int => b2 true
  | .bool _, .bool => b2 true
  | .bool _, _ => b2 false
  | .int _, .int => b2 true
  | .int _, _ => b2 false
  | .str _, .str => b2 true
  | .str _, _ => b2 false
  | .tuple _, .tuple => b2 true
  | .tuple _, _ => b2 false
  | .list _, .list => b2 true
  | .list _, _ => b2 false
  | _, _ => none


def ixD : D → D → Option D
  | .tuple xs, .int i => L2.atI xs i
  | .list xs, .int i => L2.atI xs i
  | .str s, .int i => if s.length ≤ line then (L2.atI s.cps.toList i).bind fun c => some (.str ⟨#[c]⟩) else none
  | _, _ => none

def cutD {α : Type} (xs : List α) (lo hi : Option Int) : List α := (xs.drop (HT.sIx xs.length 0 lo)).take (HT.sIx xs.length xs.length hi - HT.sIx xs.length 0 lo)
def slD : D → Option Int → Option Int → Option D
  | .tuple xs, lo, hi => some (.tuple (cutD xs lo hi))
  | .list xs, lo, hi => some (.list (cutD xs lo hi))
  | .str s, lo, hi => if s.length ≤ line then some (.str ⟨(cutD s.cps.toList lo hi).toArray⟩) else none
  | _, _, _ => none

def isBd (neg b : Bool) : D → Option D
  | .bool t => some (.bool (if neg = true then !(t == b) else t == b))
  | _ => none
def revD : D → Option D
  | .tuple xs => some (.tuple xs.reverse)
  | .list xs => some (.list xs.reverse)
  | _ => none

def boolsOf : List D → Option (List Bool)
  | [] => some []
  | .bool b :: r => (boolsOf r).map (b :: ·)
  | _ => none
def intsOf : List D → Option (List Int)
  | [] => some []
  | .int b :: r => (intsOf r).map (b :: ·)
  | _ => none
def strsOf : List D → Option (List Str)
  | [] => some []
  | .str b :: r => (strsOf r).map (b :: ·)
  | _ => none

def biD : Bi → List D → Option D
  | .len, [.str s] => if s.length ≤ line then some (.int s.length) else none
  | .len, [.list xs] => some (.int xs.length)
  | .len, [.tuple xs] => some (.int xs.length)
  | .abs, [.int i] => some (.int (if i < 0 then -i else i))
  | .int, [.int i] => some (.int i)
  | .int, [.bool b] => some (.int (if b then 1 else 0))
  | .int, [.str s] => if s.length ≤ 640 then (intText? s).bind fun n => some (.int n) else none
  | .str, [.int i] => if i.natAbs.log2 < 1920 then some (.str (toString i)) else none
  | .str, [.str s] => some (.str s)
  | .list, [.list xs] => some (.list xs)
  | .list, [.tuple xs] => some (.list xs)
  | .tuple, [.list xs] => some (.tuple xs)
  | .tuple, [.tuple xs] => some (.tuple xs)
  | .all, [.list xs] => (boolsOf xs).bind fun bs => b2 (bs.all id)
  | .any, [.list xs] => (boolsOf xs).bind fun bs => b2 (bs.any id)
  | .bool, [.bool b] => b2 b
  | .bool, [.int i] => b2 (i != 0)
  | .min2, [.int i, .int j] => some (.int (if j < i then j else i))
  | _, _ => none

def findD : List D → D → Option Nat
  | [], _ => none
  | y :: r, d => if PyData.eqv y d = true then some 0 else (findD r d).map (· + 1)
def mthD : Me → D → List D → Option D
  | .split, .str a, [.str b] => if (b.length == 0) = false ∧ a.length + 2 ≤ line then some (.list ((Txt.split a b).map .str)) else none
  | .join, .str a, [.list xs] => (strsOf xs).bind fun ys => if (ys.map (·.length)).sum + ys.length * a.length ≤ line then some (.str (Txt.join a ys)) else none
  | .index, .list xs, [.str s] => if (strsOf xs).isSome = true then (findD xs (.str s)).bind fun n => some (.int n) else none
  | _, _, _ => none

def meOk : Me → D → Bool
  | .split, .str _ => true
  | .join, .str _ => true
  | .index, .list _ => true
  | _, _ => false

/-- what a loop walks -/
def rangeD (lo : Int) (n : Nat) : List D := (List.range n).map fun i => .int (lo + (i : Nat))
def enumD (xs : List D) : List D := (List.range xs.length).zipWith (fun i x => .tuple [.int (i : Nat), x]) xs
def zipD (xs ys : List D) : List D := List.zipWith (fun x y => .tuple [x, y]) xs ys
def rngOk (i : Int) : Bool := decide (-(2 ^ 62) ≤ i) && decide (i < 2 ^ 62)
def itD : ItK → List D → Option (List D)
  | .seq, [.list xs] => some xs
  | .seq, [.tuple xs] => some xs
  | .rng1, [.int j] => if rngOk j = true then some (rangeD 0 j.toNat) else none
  | .rng2, [.int i, .int j] => if (rngOk i && rngOk j) = true then some (rangeD i (j - i).toNat) else none
  | .enum, [.list xs] => some (enumD xs)
  | .enum, [.tuple xs] => some (enumD xs)
  | .zip, [.list xs, .list ys] => some (zipD xs ys)
  | _, _ => none

/-! ### slots -/
def upS (ρ : Rho) (i : Nat) (s : Sl) : Rho := ρ.set i s
def bindT : Tg → D → Rho → R Rho
  | .name i, d, ρ => if i < ρ.length then .ok (ρ.set i (.val d)) else .bad
  | .nil, .tuple [], ρ => .ok ρ
  | .cons t r, .tuple (x :: xs), ρ => (bindT t x ρ).bind fun ρ1 => bindT r (.tuple xs) ρ1
  | _, _, _ => .bad
def Tg.slots : Tg → List Nat
  | .name i => [i]
  | .nil => []
  | .cons t r => t.slots ++ r.slots
def wipeR (ρ : Rho) : List Nat → Rho
  | [] => ρ
  | v :: vs => (wipeR ρ vs).set v .no
/-- behind a comprehension: its own names as they were ahead of it -/
def backR (ρ0 ρ : Rho) : List Nat → Rho
  | [] => ρ
  | v :: vs => (backR ρ0 ρ vs).set v ((ρ0[v]?).getD .no)

/-- whether slot i stands in an expression -/
def occ (i : Nat) : Ex → Bool
  | .var j => i == j
  | .cst _ | .glb _ | .nil => false
  | .bin _ a b | .cmp _ a b | .and a b | .or a b | .cons a b | .ix a b => occ i a || occ i b
  | .chain _ _ a b c | .ite a b c | .sl a b c => occ i a || occ i b || occ i c
  | .isN _ a | .isB _ _ a | .rev a | .not a | .tru a | .neg a | .tup a | .lst a | .lrep a _ | .call _ a | .bi _ a | .isi a _ => occ i a
  | .callIo _ j a => i == j || occ i a
  | .lc t _ s c e => t.slots.contains i || occ i s || occ i c || occ i e
  | .lc2 t _ s t2 _ s2 e => t.slots.contains i || t2.slots.contains i || occ i s || occ i s2 || occ i e
  | .pop j => i == j
  | .dict _ a => occ i a
  | .dix _ a b => occ i a || occ i b
  | .dget j a | .dgetN j a | .din j a => i == j || occ i a
  | .dgetD j a b => i == j || occ i a || occ i b
  | .mth _ a b => occ i a || occ i b
  | .lam _ a => occ i a

def lookS : List (D × D) → D → Option D
  | [], _ => none
  | (k, v) :: r, d => if PyData.eqv k d = true then some v else lookS r d
def putS (kvs : List (D × D)) (k v : D) : List (D × D) :=
  if (kvs.any fun p => PyData.eqv p.1 k) = true then kvs.map (fun p => if PyData.eqv p.1 k = true then (p.1, v) else p) else kvs ++ [(k, v)]
def isStr : D → Bool
  | .str _ => true
  | _ => false
def mkDict (ks : List Str) (vs : List D) : Option (List (D × D)) :=
  if ks.length = vs.length ∧ ks.length ≤ 15 then some ((ks.zip vs).foldl (fun acc p => putS acc (.str p.1) p.2) []) else none
def dictAt (ρ : Rho) (i : Nat) : R (List (D × D)) :=
  match ρ[i]? with
  | some (.own (.dict kvs)) => .ok kvs
  | _ => .bad

def isZero : Ex → Bool
  | .nil => true
  | _ => false
def partD : D → Option (Option Int)
  | .int i => some (some i)
  | _ => none

/-- the items of a walk, one after the other; what the turns make is collected -/
def lcGo (bnd : D → Rho → R Rho) (tst : Rho → R (Bool × Rho)) (elt : Rho → R (D × Rho)) (ws : List Nat) : List D → Rho → R (List D × Rho)
  | [], ρ => .ok ([], ρ)
  | x :: xs, ρ => (bnd x ρ).bind fun ρ1 => (tst ρ1).bind fun (b, ρ2) =>
    if b = true then (elt ρ2).bind fun (y, ρ3) => (lcGo bnd tst elt ws xs (wipeR ρ3 ws)).bind fun (ys, ρ4) => .ok (y :: ys, ρ4)
    else lcGo bnd tst elt ws xs (wipeR ρ2 ws)
/-- the same, a turn makes several -/
def lcGo2 (bnd : D → Rho → R Rho) (inn : Rho → R (List D × Rho)) (ws : List Nat) : List D → Rho → R (List D × Rho)
  | [], ρ => .ok ([], ρ)
  | x :: xs, ρ => (bnd x ρ).bind fun ρ1 => (inn ρ1).bind fun (ys, ρ2) => (lcGo2 bnd inn ws xs (wipeR ρ2 ws)).bind fun (zs, ρ3) => .ok (ys ++ zs, ρ3)

structure Ctx where
  /-- how many levels of calls are left -/
  lv : Nat
  /-- a def's run, so many levels further down: its value, and its first parameter's list as it is then -/
  call : Nat → Nat → List D → R (D × List D)
  glb : Nat → Option D
  /-- what the def f makes of a run that it was handed -/
  lam : Nat → R D → Option D
/-- within a lambda that a def calls -/
def Ctx.low (C : Ctx) : Ctx := ⟨C.lv - 2, fun k => C.call (k + 2), C.glb, C.lam⟩
def isOwn : Option Sl → Bool
  | some (.own _) => true
  | _ => false
def noOwnIn (b : Ex) (ρ : Rho) : Bool := (List.range ρ.length).all fun i => !(occ i b && isOwn ρ[i]?)
def lamFin (g : R D → Option D) (ρ : Rho) : R (D × Rho) → R (D × Rho)
  | .ok (d, ρ1) => (ofOpt (g (.ok d))).bind fun e => .ok (e, ρ1)
  | .exc c => (ofOpt (g (.exc c))).bind fun e => .ok (e, ρ)
  | .bad => .bad

/-- the left part of a comparison, the base of a subscript: an own list that the other part does not touch is only looked at -/
def peekB (a b : Ex) (f : Rho → R (D × Rho)) (ρ : Rho) : R (D × Rho) :=
  match a with
  | .var i => match ρ[i]? with
    | some (.own (.list xs)) => if occ i b = true then .bad else .ok (.list xs, ρ)
    | _ => f ρ
  | _ => f ρ
/-- what is walked: an own list that the body does not touch is only looked at -/
def peekI (k : ItK) (as : Ex) (oc : Nat → Bool) (f : Rho → R (List D × Rho)) (ρ : Rho) : R (List D × Rho) :=
  match k, as with
  | .seq, .cons (.var i) .nil => match ρ[i]? with
    | some (.own (.list xs)) => if oc i = true then .bad else .ok (xs, ρ)
    | _ => (f ρ).bind fun (ds, ρ1) => (ofOpt (itD k ds)).bind fun xs => .ok (xs, ρ1)
  | _, _ => (f ρ).bind fun (ds, ρ1) => (ofOpt (itD k ds)).bind fun xs => .ok (xs, ρ1)
def peekL (b : Bi) (as : Ex) (f : Rho → R (List D × Rho)) (ρ : Rho) : R (List D × Rho) :=
  match b, as with
  | .len, .cons (.var i) .nil => match ρ[i]? with
    | some (.own (.list xs)) => .ok ([.list xs], ρ)
    | _ => f ρ
  | _, _ => f ρ
/-- nothing may be raised within -/
def noX {α : Type} : R α → R α
  | .ok a => .ok a
  | _ => .bad
def boolR : D × Rho → R (Bool × Rho)
  | (.bool t, ρ) => .ok (t, ρ)
  | _ => .bad
/-- the test of a comprehension: none, or one -/
def tstR (z : Bool) (f : Rho → R (D × Rho)) (ρ : Rho) : R (Bool × Rho) := if z = true then .ok (true, ρ) else (f ρ).bind boolR
/-- a part of a slice -/
def prtR (z : Bool) (f : Rho → R (D × Rho)) (ρ : Rho) : R (Option Int × Rho) := if z = true then .ok (none, ρ) else (f ρ).bind fun (x, ρ1) => (ofOpt (partD x)).bind fun p => .ok (p, ρ1)
/-- what may be one's own -/
def ownG : D × Rho → R (D × Rho)
  | (.list xs, ρ) => .ok (.list xs, ρ)
  | (.dict kvs, ρ) => .ok (.dict kvs, ρ)
  | _ => .bad
def ownAt (ρ : Rho) (i : Nat) : R (List D) :=
  match ρ[i]? with
  | some (.own (.list ys)) => .ok ys
  | _ => .bad

mutual
def evE : Ctx → Ex → Rho → R (D × Rho)
  | C, .var i, ρ => match ρ[i]? with
    | some (.val d) => .ok (d, ρ)
    | some (.own (.list xs)) => .ok (.list xs, ρ.set i (.val (.list xs)))
    | _ => .bad
  | C, .cst d, ρ => .ok (d, ρ)
  | C, .glb k, ρ => (ofOpt (C.glb k)).bind fun d => .ok (d, ρ)
  | C, .bin o a b, ρ => (evE C a ρ).bind fun (x, ρ1) => (evE C b ρ1).bind fun (y, ρ2) => (ofOpt (binD o x y)).bind fun z => .ok (z, ρ2)
  | C, .cmp o a b, ρ => (peekB a b (evE C a) ρ).bind fun (x, ρ1) => (evE C b ρ1).bind fun (y, ρ2) => (ofOpt (cmpD o x y)).bind fun z => .ok (z, ρ2)
  | C, .chain o p a b c, ρ => (evE C a ρ).bind fun (x, ρ1) => (evE C b ρ1).bind fun (y, ρ2) => (ofOpt (cmpD o x y)).bind fun z => (boolR (z, ρ2)).bind fun (t, ρ2) =>
    if t = true then (evE C c ρ2).bind fun (w, ρ3) => (ofOpt (cmpD p y w)).bind fun z => .ok (z, ρ3) else .ok (.bool false, ρ2)
  | C, .isN neg a, ρ => (evE C a ρ).bind fun (x, ρ1) => .ok (.bool (match x with | .none => !neg | _ => neg), ρ1)
  | C, .isB neg b a, ρ => (evE C a ρ).bind fun (x, ρ1) => (ofOpt (isBd neg b x)).bind fun z => .ok (z, ρ1)
  | C, .rev a, ρ => (evE C a ρ).bind fun (x, ρ1) => (ofOpt (revD x)).bind fun z => .ok (z, ρ1)
  | C, .and a b, ρ => ((evE C a ρ).bind boolR).bind fun (t, ρ1) => if t = true then evE C b ρ1 else .ok (.bool false, ρ1)
  | C, .or a b, ρ => ((evE C a ρ).bind boolR).bind fun (t, ρ1) => if t = true then .ok (.bool true, ρ1) else evE C b ρ1
  | C, .not a, ρ => ((evE C a ρ).bind boolR).bind fun (t, ρ1) => .ok (.bool (!t), ρ1)
  | C, .tru a, ρ => (evE C a ρ).bind fun (x, ρ1) => (ofOpt (truthD x)).bind fun t => .ok (.bool t, ρ1)
  | C, .neg a, ρ => (evE C a ρ).bind fun (x, ρ1) => match x with
    | .int i => .ok (.int (-i), ρ1)
    | _ => .bad
  | C, .ite c a b, ρ => ((evE C c ρ).bind boolR).bind fun (t, ρ1) => if t = true then evE C a ρ1 else evE C b ρ1
  | C, .nil, ρ => .bad
  | C, .cons _ _, ρ => .bad
  | C, .tup as, ρ => (evA C as ρ).bind fun (xs, ρ1) => if xs.length ≤ line then .ok (.tuple xs, ρ1) else .bad
  | C, .lst as, ρ => (evA C as ρ).bind fun (xs, ρ1) => if xs.length ≤ line then .ok (.list xs, ρ1) else .bad
  | C, .lrep as n, ρ => (evA C as ρ).bind fun (xs, ρ1) => if xs.length ≤ 1000 ∧ n ≤ 1000 then .ok (.list (reps n xs), ρ1) else .bad
  | C, .ix a b, ρ => (peekB a b (evE C a) ρ).bind fun (x, ρ1) => (evE C b ρ1).bind fun (y, ρ2) => (ofOpt (ixD x y)).bind fun z => .ok (z, ρ2)
  | C, .sl a lo hi, ρ => (evE C a ρ).bind fun (x, ρ1) => (prtR (isZero lo) (evE C lo) ρ1).bind fun (l, ρ2) => (prtR (isZero hi) (evE C hi) ρ2).bind fun (h, ρ3) => (ofOpt (slD x l h)).bind fun z => .ok (z, ρ3)
  | C, .call f as, ρ => (evA C as ρ).bind fun (xs, ρ1) => (C.call 0 f xs).bind fun (d, _) => .ok (d, ρ1)
  | C, .callIo f i as, ρ => (ownAt ρ i).bind fun _ => (evA C as ρ).bind fun (xs, ρ1) => (ownAt ρ1 i).bind fun ys => (C.call 0 f (.list ys :: xs)).bind fun (d, zs) => .ok (d, ρ1.set i (.own (.list zs)))
  | C, .bi b as, ρ => (peekL b as (evA C as) ρ).bind fun (xs, ρ1) => (ofOpt (biD b xs)).bind fun z => .ok (z, ρ1)
  | C, .isi a t, ρ => (evE C a ρ).bind fun (x, ρ1) => (ofOpt (isD x t)).bind fun z => .ok (z, ρ1)
  | C, .lc t k s c e, ρ => (peekI k s (fun i => t.slots.contains i || occ i c || occ i e) (evA C s) ρ).bind fun (xs, ρ1) =>
    if xs.length ≤ line then
      (noX (lcGo (bindT t) (tstR (isZero c) (evE C c)) (evE C e) t.slots xs (wipeR ρ1 t.slots))).bind fun (ys, ρ2) => .ok (.list ys, backR ρ1 ρ2 t.slots)
    else .bad
  | C, .lc2 t k s t2 k2 s2 e, ρ => (peekI k s (fun i => t.slots.contains i || t2.slots.contains i || occ i s2 || occ i e) (evA C s) ρ).bind fun (xs, ρ1) =>
      (noX (lcGo2 (bindT t) (fun ρ' => (peekI k2 s2 (fun i => t2.slots.contains i || occ i e) (evA C s2) ρ').bind fun (xs2, ρ'') =>
          if xs.length * xs2.length ≤ 1000000 then lcGo (bindT t2) (fun r => .ok (true, r)) (evE C e) t2.slots xs2 (wipeR ρ'' t2.slots) else .bad)
        (t.slots ++ t2.slots) xs (wipeR ρ1 (t.slots ++ t2.slots)))).bind fun (ys, ρ2) => if ys.length ≤ line then .ok (.list ys, backR ρ1 ρ2 (t.slots ++ t2.slots)) else .bad
  | C, .pop i, ρ => (ownAt ρ i).bind fun ys => match ys with
    | x :: xs => .ok (x, ρ.set i (.own (.list xs)))
    | [] => .bad
  | C, .dict ks vs, ρ => (evA C vs ρ).bind fun (xs, ρ1) => (ofOpt (mkDict ks xs)).bind fun kvs => .ok (.dict kvs, ρ1)
  | C, .dix ks vs k, ρ => (evA C vs ρ).bind fun (xs, ρ1) => (ofOpt (mkDict ks xs)).bind fun kvs => (evE C k ρ1).bind fun (y, ρ2) =>
    if isStr y = true then (ofOpt (lookS kvs y)).bind fun v => .ok (v, ρ2) else .bad
  | C, .dget i k, ρ => (dictAt ρ i).bind fun _ => (evE C k ρ).bind fun (y, ρ1) => (dictAt ρ1 i).bind fun kvs => if isStr y = true then (ofOpt (lookS kvs y)).bind fun v => .ok (v, ρ1) else .bad
  | C, .dgetN i k, ρ => (dictAt ρ i).bind fun _ => (evE C k ρ).bind fun (y, ρ1) => (dictAt ρ1 i).bind fun kvs => if isStr y = true then .ok ((lookS kvs y).getD .none, ρ1) else .bad
  | C, .dgetD i k d, ρ => (dictAt ρ i).bind fun _ => (evE C k ρ).bind fun (y, ρ1) => (evE C d ρ1).bind fun (z, ρ2) => (dictAt ρ2 i).bind fun kvs => if isStr y = true then .ok ((lookS kvs y).getD z, ρ2) else .bad
  | C, .din i k, ρ => (evE C k ρ).bind fun (y, ρ1) => (dictAt ρ1 i).bind fun kvs => if isStr y = true then .ok (.bool (lookS kvs y).isSome, ρ1) else .bad
  | C, .mth m a as, ρ => (evE C a ρ).bind fun (x, ρ1) => if meOk m x = true then (evA C as ρ1).bind fun (xs, ρ2) => (ofOpt (mthD m x xs)).bind fun z => .ok (z, ρ2) else .bad
  | C, .lam f b, ρ => if (decide (2 ≤ C.lv) && noOwnIn b ρ) = true then lamFin (C.lam f) ρ (evE C.low b ρ) else .bad
def evA : Ctx → Ex → Rho → R (List D × Rho)
  | C, .nil, ρ => .ok ([], ρ)
  | C, .cons a r, ρ => (evE C a ρ).bind fun (x, ρ1) => (evA C r ρ1).bind fun (xs, ρ2) => .ok (x :: xs, ρ2)
  | _, _, _ => .bad
end

/-- a block's end -/
inductive Fl where
  | next
  | ret (d : D)

def parS : List Nat → List D → Rho → R Rho
  | [], [], ρ => .ok ρ
  | i :: is, d :: ds, ρ => if i < ρ.length then parS is ds (ρ.set i (.val d)) else .bad
  | _, _, _ => .bad
def ownS (i : Nat) (d : D) (ρ : Rho) : R Rho :=
  if i < ρ.length then match d with
    | .list xs => .ok (ρ.set i (.own (.list xs)))
    | .dict kvs => .ok (ρ.set i (.own (.dict kvs)))
    | _ => .bad
  else .bad
def putSl (i : Nat) (k d : D) (ρ : Rho) : R Rho :=
  match ρ[i]?, k with
  | some (.own (.list xs)), .int j => (ofOpt (L2.ixN xs.length j)).bind fun n => .ok (ρ.set i (.own (.list (xs.set n d))))
  | _, _ => .bad
def putDl (i : Nat) (k d : D) (ρ : Rho) : R Rho :=
  match ρ[i]?, k with
  | some (.own (.dict kvs)), .str s => if kvs.length < line then .ok (ρ.set i (.own (.dict (putS kvs (.str s) d)))) else .bad
  | _, _ => .bad
/-- what a loop walks: what it is becomes shared -/
def itP (k : ItK) (f : Rho → R (List D × Rho)) (ρ : Rho) : R (List D × Rho) := (f ρ).bind fun (ds, ρ1) => (ofOpt (itD k ds)).bind fun xs => .ok (xs, ρ1)

def goL (bnd : D → Rho → R Rho) (body : Rho → R (Fl × Rho)) : List D → Rho → R (Fl × Rho)
  | [], ρ => .ok (.next, ρ)
  | x :: xs, ρ => (bnd x ρ).bind fun ρ1 => (body ρ1).bind fun (f, ρ2) => match f with
    | .next => goL bnd body xs ρ2
    | .ret d => .ok (.ret d, ρ2)
def goW (tst : Rho → R (Bool × Rho)) (body : Rho → R (Fl × Rho)) : Nat → Rho → R (Fl × Rho)
  | 0, _ => .bad
  | n + 1, ρ => (tst ρ).bind fun (t, ρ1) => if t = true then (body ρ1).bind fun (f, ρ2) => match f with
      | .next => goW tst body n ρ2
      | .ret d => .ok (.ret d, ρ2)
    else .ok (.next, ρ1)
/-- as many turns as a while may have -/
def turns : Nat := 10 ^ 60

def evS (C : Ctx) : Sx → Rho → R (Fl × Rho)
  | .skip, ρ => .ok (.next, ρ)
  | .seq s r, ρ => (evS C s ρ).bind fun (f, ρ1) => match f with
    | .next => evS C r ρ1
    | .ret d => .ok (.ret d, ρ1)
  | .set t e, ρ => (evE C e ρ).bind fun (x, ρ1) => (bindT t x ρ1).bind fun ρ2 => .ok (.next, ρ2)
  | .par is as, ρ => (evA C as ρ).bind fun (xs, ρ1) => (parS is xs ρ1).bind fun ρ2 => .ok (.next, ρ2)
  | .own i e, ρ => ((evE C e ρ).bind ownG).bind fun (x, ρ1) => (ownS i x ρ1).bind fun ρ2 => .ok (.next, ρ2)
  | .app i e, ρ => (ownAt ρ i).bind fun _ => (evE C e ρ).bind fun (x, ρ1) => (ownAt ρ1 i).bind fun xs => if xs.length < line then .ok (.next, ρ1.set i (.own (.list (xs ++ [x])))) else .bad
  | .put i k e, ρ => (evE C e ρ).bind fun (x, ρ1) => (ownAt ρ1 i).bind fun _ => (evE C k ρ1).bind fun (y, ρ2) => (putSl i y x ρ2).bind fun ρ3 => .ok (.next, ρ3)
  | .dput i k e, ρ => (evE C e ρ).bind fun (x, ρ1) => (dictAt ρ1 i).bind fun _ => (evE C k ρ1).bind fun (y, ρ2) => (putDl i y x ρ2).bind fun ρ3 => .ok (.next, ρ3)
  | .ex e, ρ => (evE C e ρ).bind fun (_, ρ1) => .ok (.next, ρ1)
  | .ret e, ρ => (evE C e ρ).bind fun (x, ρ1) => .ok (.ret x, ρ1)
  | .retO i, ρ => (ownAt ρ i).bind fun xs => .ok (.ret (.list xs), ρ)
  | .retN, ρ => .ok (.ret .none, ρ)
  | .cond c a b, ρ => ((evE C c ρ).bind boolR).bind fun (t, ρ1) => if t = true then evS C a ρ1 else evS C b ρ1
  | .loop t k s b, ρ => (itP k (evA C s) ρ).bind fun (xs, ρ1) => goL (bindT t) (evS C b) xs ρ1
  | .while c b, ρ => goW (fun r => (evE C c r).bind boolR) (evS C b) turns ρ
  | .raise c, _ => .exc c

/-! ### defs -/
def start (F : Df) (ds : List D) : Rho :=
  (match F.io, ds with
    | true, d :: r => .own d :: r.map .val
    | _, ds => ds.map .val) ++ List.replicate (F.ns - ds.length) .no
def isLst : D → Bool
  | .list _ => true
  | _ => false
def finish (F : Df) (p : Fl × Rho) : R (D × List D) :=
  (if F.io = true then ownAt p.2 0 else .ok []).bind fun zs =>
    match p.1 with
    | .next => if F.own = true then .bad else .ok (.none, zs)
    | .ret d => if F.own = true ∧ isLst d = false then .bad else .ok (d, zs)

structure Prog where
  defs : Nat → Option Df
  glb : Nat → Option D
  lam : Nat → R D → Option D

/-- the runs, so many levels left, so many levels further down -/
def calls (P : Prog) : Nat → Nat → Nat → List D → R (D × List D)
  | 0, _, _, _ => .bad
  | n + 1, 0, f, ds => match P.defs f with
    | none => .bad
    | some F => if ds.length = F.np then (evS ⟨n, calls P n, P.glb, P.lam⟩ F.body (start F ds)).bind (finish F) else .bad
  | n + 1, k + 1, f, ds => calls P n k f ds
def callF (P : Prog) (n f : Nat) (ds : List D) : R (D × List D) := calls P n 0 f ds
def Prog.ctx (P : Prog) (n : Nat) : Ctx := ⟨n, calls P n, P.glb, P.lam⟩
theorem callF_zero (P : Prog) (f : Nat) (ds : List D) : callF P 0 f ds = .bad := rfl
theorem callF_succ (P : Prog) (n f : Nat) (ds : List D) : callF P (n + 1) f ds = match P.defs f with
    | none => .bad
    | some F => if ds.length = F.np then (evS (P.ctx n) F.body (start F ds)).bind (finish F) else .bad := rfl
theorem ctx_low (P : Prog) (n : Nat) : (P.ctx n).low = P.ctx (n - 2) := by
  match n with
  | 0 => rfl
  | 1 => rfl
  | n + 2 => rfl
end Fo

set_option Elab.async false
set_option linter.all false
set_option maxRecDepth 100000
/-! SemB1: how slots and data lie over an abstract heap; what a run may change. -/
namespace L2
open PySem
theorem DpAll.lenD {K : PySem.W.Frag} {H : Hp} : ∀ {vs : List V} {ds : List PyData}, DpAll K H vs ds → vs.length = ds.length
  | _, _, .nil => rfl
  | _, _, .cons _ h => by rw [List.length_cons, List.length_cons, DpAll.lenD h]
theorem DpAll.getD {K : PySem.W.Frag} {H : Hp} : ∀ {vs : List V} {ds : List PyData} {i : Nat} {d : PyData}, DpAll K H vs ds → ds[i]? = some d → ∃ v, vs[i]? = some v ∧ Dp K H v d
  | _, _, _, _, .nil, e => by simp at e
  | _, _, 0, _, .cons h _, e => by simp at e; subst e; exact ⟨_, rfl, h⟩
  | _, _, i + 1, _, .cons _ h, e => by
    obtain ⟨v, h1, h2⟩ := DpAll.getD (i := i) h (by simpa using e)
    exact ⟨v, by simpa using h1, h2⟩
theorem DpAll.appD {K : PySem.W.Frag} {H : Hp} : ∀ {vs ws : List V} {ds es : List PyData}, DpAll K H vs ds → DpAll K H ws es → DpAll K H (vs ++ ws) (ds ++ es)
  | _, _, _, _, .nil, s => s
  | _, _, _, _, .cons h t, s => .cons h (DpAll.appD t s)
theorem DpAll.dropD {K : PySem.W.Frag} {H : Hp} : ∀ {vs : List V} {ds : List PyData} (n : Nat), DpAll K H vs ds → DpAll K H (vs.drop n) (ds.drop n)
  | _, _, 0, h => h
  | _, _, _ + 1, .nil => .nil
  | _, _, n + 1, .cons _ h => DpAll.dropD n h
theorem DpAll.takeD {K : PySem.W.Frag} {H : Hp} : ∀ {vs : List V} {ds : List PyData} (n : Nat), DpAll K H vs ds → DpAll K H (vs.take n) (ds.take n)
  | _, _, 0, _ => .nil
  | _, _, _ + 1, .nil => .nil
  | _, _, n + 1, .cons h t => .cons h (DpAll.takeD n t)
theorem DpAll.setD {K : PySem.W.Frag} {H : Hp} {v : V} {d : PyData} (r : Dp K H v d) : ∀ {vs : List V} {ds : List PyData} (n : Nat), DpAll K H vs ds → DpAll K H (vs.set n v) (ds.set n d)
  | _, _, _, .nil => .nil
  | _, _, 0, .cons _ t => .cons r t
  | _, _, n + 1, .cons h t => .cons h (DpAll.setD r n t)

end L2
namespace Fo
open PySem L2 LamX

theorem Dp.mono' {K : PySem.W.Frag} {H H' : Hp} (s : Same H H') : (∀ {v : V} {d : D}, Dp K H v d → Dp K H' v d) ∧ (∀ {vs : List V} {ds : List D}, DpAll K H vs ds → DpAll K H' vs ds) := by
  have sqt : ∀ {a : Addr} {xs : List V}, SqT K H a xs → SqT K H' a xs := fun {a xs} h => by
    rcases h with (h | ⟨o, h⟩) | h
    · exact .inl (.inl (s _ _ h))
    · exact .inl (.inr ⟨o, s _ _ h⟩)
    · exact .inr h
  have both : (∀ (d : D) (v : V), Dp K H v d → Dp K H' v d) ∧ True := by
    refine ⟨?_, trivial⟩
    intro d v h
    refine Dp.rec (motive_1 := fun v d _ => Dp K H' v d) (motive_2 := fun vs ds _ => DpAll K H' vs ds) .non .bl .int .str (fun h1 _ h2 => .lst (s.seq h1) h2) (fun h1 _ h2 => .tup (sqt h1) h2) .nil (fun _ _ h1 h2 => .cons h1 h2) h
  have all : ∀ (vs : List V) (ds : List D), DpAll K H vs ds → DpAll K H' vs ds := by
    intro vs ds h
    refine DpAll.rec (motive_1 := fun v d _ => Dp K H' v d) (motive_2 := fun vs ds _ => DpAll K H' vs ds) .non .bl .int .str (fun h1 _ h2 => .lst (s.seq h1) h2) (fun h1 _ h2 => .tup (sqt h1) h2) .nil (fun _ _ h1 h2 => .cons h1 h2) h
  exact ⟨fun h => both.1 _ _ h, fun h => all _ _ h⟩
theorem dp_mono {K : PySem.W.Frag} {H H' : Hp} {v : V} {d : D} (s : Same H H') (h : Dp K H v d) : Dp K H' v d := (Dp.mono' s).1 h
theorem dps_mono {K : PySem.W.Frag} {H H' : Hp} {vs : List V} {ds : List D} (s : Same H H') (h : DpAll K H vs ds) : DpAll K H' vs ds := (Dp.mono' s).2 h
/-! ### slots -/
def Own (σ : L2.St) (ρ : Rho) (i : Nat) (a : Addr) : Prop := (∃ d, ρ[i]? = some (.own d)) ∧ σ[i]? = some (some (.ref a))
/-- a dict's pairs: keys are texts -/
inductive KvRep (K : PySem.W.Frag) (k : Hp) : List (Key × V) → List (D × D) → Prop where
  | nil : KvRep K k [] []
  | cons {s : Str} {v : V} {d : D} {r : List (Key × V)} {t : List (D × D)} : Dp K k v d → KvRep K k r t → KvRep K k ((.inr s, v) :: r) ((.str s, d) :: t)
def OwnRep (K : PySem.W.Frag) (k H : Hp) (a : Addr) : D → Prop
  | .list xs => ∃ vs, H a = some (.lst vs) ∧ DpAll K k vs xs
  | .dict kvs => ∃ ks, H a = some (.dK ks) ∧ KvRep K k ks kvs
  | _ => False
theorem KvRep.mono {K : PySem.W.Frag} {k k' : Hp} (s : Same k k') : ∀ {ks : List (Key × V)} {kvs : List (D × D)}, KvRep K k ks kvs → KvRep K k' ks kvs
  | _, _, .nil => .nil
  | _, _, .cons h t => .cons (dp_mono s h) (KvRep.mono s t)
theorem OwnRep.there {K : PySem.W.Frag} {k H : Hp} {a : Addr} {d : D} (h : OwnRep K k H a d) : ∃ o, H a = some o ∧ ∀ ps, o ≠ .tbl ps := by
  cases d with
  | list xs => obtain ⟨vs, e, _⟩ := h; exact ⟨_, e, fun ps z => by cases z⟩
  | dict kvs => obtain ⟨vs, e, _⟩ := h; exact ⟨_, e, fun ps z => by cases z⟩
  | _ => exact h.elim
theorem OwnRep.mono {K : PySem.W.Frag} {k k' H H' : Hp} {a : Addr} {d : D} (h : OwnRep K k H a d) (s : Same k k') (e : ∀ o, H a = some o → (∀ ps, o ≠ .tbl ps) → H' a = some o) : OwnRep K k' H' a d := by
  cases d with
  | list xs => obtain ⟨vs, e1, q⟩ := h; exact ⟨vs, e _ e1 (fun ps z => by cases z), dps_mono s q⟩
  | dict kvs => obtain ⟨vs, e1, q⟩ := h; exact ⟨vs, e _ e1 (fun ps z => by cases z), q.mono s⟩
  | _ => exact h.elim

abbrev Tbs := List (Addr × Str)
structure WF (K : PySem.W.Frag) (T : Tbs) (σ : L2.St) (ρ : Rho) (k H : Hp) : Prop where
  sub : Same k H
  ntb : ∀ a ps, k a ≠ some (.tbl ps)
  tab : Tabs T H
  len : ρ.length = σ.length
  val : ∀ (i : Nat) (d : D), ρ[i]? = some (.val d) → ∃ v, σ[i]? = some (some v) ∧ Dp K k v d
  own : ∀ (i : Nat) (d : D), ρ[i]? = some (.own d) → ∃ a, σ[i]? = some (some (.ref a)) ∧ k a = none ∧ OwnRep K k H a d
  dis : ∀ (i j : Nat) (a : Addr), Own σ ρ i a → Own σ ρ j a → i = j
section
variable {K : PySem.W.Frag} {T : Tbs} {σ σ1 : L2.St} {ρ ρ1 ρ2 : Rho} {k k1 k2 H H1 H2 : Hp}
theorem WF.ownH (w : WF K T σ ρ k H) {i : Nat} {a : Addr} (o : Own σ ρ i a) : ∃ d u, ρ[i]? = some (.own d) ∧ OwnRep K k H a d ∧ k a = none ∧ H a = some u ∧ ∀ ps, u ≠ .tbl ps := by
  obtain ⟨⟨d, e⟩, e2⟩ := o
  obtain ⟨b, e3, e4, e5⟩ := w.own i d e
  rw [e2] at e3
  cases e3
  obtain ⟨u, e6, e7⟩ := e5.there
  exact ⟨d, u, e, e5, e4, e6, e7⟩

/-- what an expression may change: ms, the slots that stand in it -/
structure Tr (T : Tbs) (ms : Nat → Bool) (σ : L2.St) (ρ : Rho) (k H : Hp) (ρ1 : Rho) (k1 H1 : Hp) : Prop where
  kk : Same k k1
  new : ∀ a, k1 a ≠ none → k a ≠ none ∨ H a = none ∨ ∃ i, ms i = true ∧ Own σ ρ i a
  frm : ∀ a o, H a = some o → (∀ ps, o ≠ .tbl ps) → H1 a = some o ∨ ∃ i, ms i = true ∧ Own σ ρ i a
  dom : ∀ a, H a ≠ none → H1 a ≠ none
  slt : ∀ (i : Nat), ms i = false → ρ1[i]? = ρ[i]?
  own : ∀ (i : Nat) (a : Addr), Own σ ρ1 i a → Own σ ρ i a
  tb : Tabs T H → Tabs T H1
def TrX (T : Tbs) (ms : Nat → Bool) (σ : L2.St) (ρ : Rho) (H H1 : Hp) : Prop := (∀ a o, H a = some o → (∀ ps, o ≠ .tbl ps) → H1 a = some o ∨ ∃ i, ms i = true ∧ Own σ ρ i a) ∧ (∀ a, H a ≠ none → H1 a ≠ none) ∧ Tabs T H1

theorem WF.ownNe (w : WF K T σ ρ k H) {i : Nat} {a : Addr} (o : Own σ ρ i a) : H a ≠ none := by
  obtain ⟨_, u, _, _, _, e, _⟩ := w.ownH o
  rw [e]; exact fun z => by cases z
theorem Tr.refl {ms : Nat → Bool} : Tr T ms σ ρ k H ρ k H :=
  ⟨fun _ _ h => h, fun _ h => .inl h, fun _ _ h _ => .inl h, fun _ h => h, fun _ _ => rfl, fun _ _ h => h, fun h => h⟩
theorem Tr.mono {ms ms' : Nat → Bool} (t : Tr T ms σ ρ k H ρ1 k1 H1) (h : ∀ i, ms i = true → ms' i = true) : Tr T ms' σ ρ k H ρ1 k1 H1 :=
  ⟨t.kk, fun a q => (t.new a q).imp id (Or.imp id fun ⟨i, e, o⟩ => ⟨i, h i e, o⟩), fun a o q n => (t.frm a o q n).imp id fun ⟨i, e, o⟩ => ⟨i, h i e, o⟩, t.dom,
    fun i e => t.slt i (by cases q : ms i with
      | false => rfl
      | true => rw [h i q] at e; cases e), t.own, t.tb⟩
theorem Tr.trans {ms : Nat → Bool} (t : Tr T ms σ ρ k H ρ1 k1 H1) (u : Tr T ms σ ρ1 k1 H1 ρ2 k2 H2) : Tr T ms σ ρ k H ρ2 k2 H2 where
  kk := t.kk.trans u.kk
  new := fun a q => by
    rcases u.new a q with q | q | ⟨i, e, o⟩
    · exact t.new a q
    · refine .inr (.inl ?_)
      cases z : H a with
      | none => rfl
      | some x => exact absurd q (t.dom a (by rw [z]; exact fun z => by cases z))
    · exact .inr (.inr ⟨i, e, t.own _ _ o⟩)
  frm := fun a o q n => by
    rcases t.frm a o q n with q | q
    · rcases u.frm a o q n with q | ⟨i, e, o⟩
      · exact .inl q
      · exact .inr ⟨i, e, t.own _ _ o⟩
    · exact .inr q
  dom := fun a q => u.dom a (t.dom a q)
  slt := fun i e => (u.slt i e).trans (t.slt i e)
  own := fun i a o => t.own i a (u.own i a o)
  tb := fun h => u.tb (t.tb h)
theorem TrX.after {ms : Nat → Bool} (t : Tr T ms σ ρ k H ρ1 k1 H1) (u : TrX T ms σ ρ1 H1 H2) : TrX T ms σ ρ H H2 :=
  ⟨fun a o q n => by
    rcases t.frm a o q n with q | q
    · rcases u.1 a o q n with q | ⟨i, e, o⟩
      · exact .inl q
      · exact .inr ⟨i, e, t.own _ _ o⟩
    · exact .inr q, fun a q => u.2.1 a (t.dom a q), u.2.2⟩
theorem TrX.mono {ms ms' : Nat → Bool} (t : TrX T ms σ ρ H H1) (h : ∀ i, ms i = true → ms' i = true) : TrX T ms' σ ρ H H1 :=
  ⟨fun a o q n => (t.1 a o q n).imp id fun ⟨i, e, o⟩ => ⟨i, h i e, o⟩, t.2⟩

/-- nothing that stood is changed; something may be new -/
structure Px (k H k1 H1 : Hp) : Prop where
  kk : Same k k1
  hh : Same H H1
  sub : Same k1 H1
  new : ∀ a, k1 a ≠ none → k a ≠ none ∨ H a = none
  ntb : (∀ a ps, k a ≠ some (.tbl ps)) → ∀ a ps, k1 a ≠ some (.tbl ps)
theorem Same.dom (s : Same H H1) : ∀ a, H a ≠ none → H1 a ≠ none := fun a h => by
  cases e : H a with
  | none => exact absurd e h
  | some o => rw [s a o e]; exact fun z => by cases z
theorem Px.refl (s : Same k H) : Px k H k H := ⟨fun _ _ h => h, fun _ _ h => h, s, fun _ h => .inl h, fun h => h⟩
theorem Px.trans (p : Px k H k1 H1) (q : Px k1 H1 k2 H2) : Px k H k2 H2 where
  kk := p.kk.trans q.kk
  hh := p.hh.trans q.hh
  sub := q.sub
  new := fun a h => by
    rcases q.new a h with z | z
    · exact p.new a z
    · refine .inr ?_
      cases e : H a with
      | none => rfl
      | some x => rw [p.hh a x e] at z; cases z
  ntb := fun h => q.ntb (p.ntb h)
theorem Px.tr {ms : Nat → Bool} (p : Px k H k1 H1) : Tr T ms σ ρ k H ρ k1 H1 :=
  ⟨p.kk, fun a h => (p.new a h).imp id .inl, fun a o h _ => .inl (p.hh a o h), Same.dom p.hh, fun _ _ => rfl, fun _ _ h => h, fun h => h.ext p.hh⟩
theorem WF.px (w : WF K T σ ρ k H) (p : Px k H k1 H1) : WF K T σ ρ k1 H1 where
  sub := p.sub
  ntb := p.ntb w.ntb
  tab := w.tab.ext p.hh
  len := w.len
  val := fun i d e => by
    obtain ⟨v, h1, h2⟩ := w.val i d e
    exact ⟨v, h1, dp_mono p.kk h2⟩
  own := fun i d e => by
    obtain ⟨a, h1, h2, h3⟩ := w.own i d e
    refine ⟨a, h1, ?_, h3.mono p.kk fun o q _ => p.hh a o q⟩
    cases z : k1 a with
    | none => rfl
    | some x =>
      rcases p.new a (by rw [z]; exact fun z => by cases z) with q | q
      · exact absurd h2 q
      · exact absurd q (w.ownNe ⟨⟨d, e⟩, h1⟩)
  dis := w.dis
theorem upd_some {H : Hp} {p : Addr} {o : HO} (h : H p = none) : Same H (upd H p o) := fun b x e => by
  rw [upd_ne (ne_of_none e h)]
  exact e
theorem Px.alloc (s : Same k H) {p : Addr} {o : HO} (h : H p = none) (n : ∀ ps, o ≠ .tbl ps) : Px k H (upd k p o) (upd H p o) := by
  have hk : k p = none := by
    cases e : k p with
    | none => rfl
    | some x => rw [s p x e] at h; cases h
  refine ⟨upd_some hk, upd_some h, fun b x e => ?_, fun a e => ?_, fun q a ps e => ?_⟩
  · by_cases hb : b = p
    · subst hb; rw [upd_same] at e ⊢; exact e
    · rw [upd_ne hb] at e ⊢; exact s b x e
  · by_cases ha : a = p
    · subst ha; exact .inr h
    · rw [upd_ne ha] at e; exact .inl e
  · by_cases ha : a = p
    · subst ha; rw [upd_same] at e; exact n ps (Option.some.inj e)
    · rw [upd_ne ha] at e; exact q a ps e
/-- an object is laid that is not told -/
theorem Px.hide (s : Same k H) {p : Addr} {o : HO} (h : H p = none) : Px k H k (upd H p o) :=
  ⟨fun _ _ h => h, upd_some h, s.trans (upd_some h), fun _ e => .inl e, fun q => q⟩

/-! ### what is wanted behind a run -/
abbrev XW := Nat → L2.St → Hp → Prop
def pG {α : Type} (K : PySem.W.Frag) (T : Tbs) (W : XW) (ms : Nat → Bool) (σ : L2.St) (ρ : Rho) (k H : Hp) (r : R (α × Rho)) (G : α → Rho → Hp → Hp → Prop) : Prop :=
  match r with
  | .ok (a, ρ1) => ∀ k1 H1, Tr T ms σ ρ k H ρ1 k1 H1 → WF K T σ ρ1 k1 H1 → G a ρ1 k1 H1
  | .exc c => ∀ H1, TrX T ms σ ρ H H1 → W c σ H1
  | .bad => False
section
variable {α β : Type} {W : XW} {ms : Nat → Bool} {r : R (α × Rho)}
theorem pG_bind {f : α × Rho → R (β × Rho)} {G : β → Rho → Hp → Hp → Prop} (h : pG K T W ms σ ρ k H (r.bind f) G) :
    pG K T W ms σ ρ k H r fun a ρ1 k1 H1 => pG K T W ms σ ρ1 k1 H1 (f (a, ρ1)) G := by
  cases r with
  | bad => exact h
  | exc c => exact h
  | ok p =>
    obtain ⟨a, ρ1⟩ := p
    intro k1 H1 t w
    have h' : pG K T W ms σ ρ k H (f (a, ρ1)) G := h
    show pG K T W ms σ ρ1 k1 H1 (f (a, ρ1)) G
    cases e : f (a, ρ1) with
    | bad => rw [e] at h'; exact h'
    | exc c => rw [e] at h'; exact fun H2 u => h' H2 (u.after t)
    | ok q => rw [e] at h'; exact fun k2 H2 u w2 => h' k2 H2 (t.trans u) w2
theorem pG_mono {ms' : Nat → Bool} {G G' : α → Rho → Hp → Hp → Prop} (h : pG K T W ms σ ρ k H r G) (hm : ∀ i, ms' i = true → ms i = true)
    (hG : ∀ a ρ1 k1 H1, Tr T ms' σ ρ k H ρ1 k1 H1 → WF K T σ ρ1 k1 H1 → G a ρ1 k1 H1 → G' a ρ1 k1 H1) : pG K T W ms' σ ρ k H r G' := by
  cases r with
  | bad => exact h
  | exc c => exact fun H1 u => h H1 (u.mono hm)
  | ok p => exact fun k1 H1 t w => hG _ _ _ _ t w (h k1 H1 (t.mono hm) w)
theorem pG_ok {a : α} {G : α → Rho → Hp → Hp → Prop} (h : pG K T W ms σ ρ k H (.ok (a, ρ)) G) (w : WF K T σ ρ k H) : G a ρ k H := h k H .refl w
theorem pG_okx {a : α} {G : α → Rho → Hp → Hp → Prop} (h : pG K T W ms σ ρ k H (.ok (a, ρ)) G) (w : WF K T σ ρ k H) (p : Px k H k1 H1) : G a ρ k1 H1 := h k1 H1 p.tr (w.px p)
end
end
/-- an expression's value, shared; a test's; a list of values -/
def tE (K : PySem.W.Frag) (T : Tbs) (W : XW) (ms : Nat → Bool) (f : Rho → R (D × Rho)) : TE := fun σ H Q => ∃ ρ k, WF K T σ ρ k H ∧ pG K T W ms σ ρ k H (f ρ) fun d _ k1 H1 => ∀ v, Dp K k1 v d → Q v H1
def tT (K : PySem.W.Frag) (T : Tbs) (W : XW) (ms : Nat → Bool) (f : Rho → R (D × Rho)) : TT := fun σ H Q => ∃ ρ k, WF K T σ ρ k H ∧ pG K T W ms σ ρ k H ((f ρ).bind boolR) fun b _ _ H1 => Q b H1
def tA (K : PySem.W.Frag) (T : Tbs) (W : XW) (ms : Nat → Bool) (f : Rho → R (List D × Rho)) : TA := fun σ H Q => ∃ ρ k, WF K T σ ρ k H ∧ pG K T W ms σ ρ k H (f ρ) fun ds _ k1 H1 => ∀ vs, DpAll K k1 vs ds → Q vs H1
/-- a value that is new and one's own -/
def tF (K : PySem.W.Frag) (T : Tbs) (W : XW) (ms : Nat → Bool) (f : Rho → R (D × Rho)) : TE := fun σ H Q => ∃ ρ k, WF K T σ ρ k H ∧ pG K T W ms σ ρ k H (f ρ) fun d _ k1 H1 => ∀ p, H p = none → k1 p = none → OwnRep K k1 H1 p d → Q (.ref p) H1
end Fo
namespace L2
open PySem
theorem PE.weaken {X : Cx} {e : Expr} {t t' : TE} (h : PE X e t) (m : ∀ σ H Q, t' σ H Q → t σ H Q) : PE X e t' := ⟨fun pins s σ H Q I q => h.run pins s σ H Q I (m σ H Q q)⟩
theorem PT.weaken {X : Cx} {e : Expr} {t t' : TT} (h : PT X e t) (m : ∀ σ H Q, t' σ H Q → t σ H Q) : PT X e t' := ⟨fun pins s σ H Q I q => h.run pins s σ H Q I (m σ H Q q)⟩
theorem PW.weaken {X : Cx} {e : Expr} {t t' : TT} (h : PW X e t) (m : ∀ σ H Q, t' σ H Q → t σ H Q) : PW X e t' := ⟨fun wh pins s σ H Q I q => h.run wh pins s σ H Q I (m σ H Q q)⟩
theorem PA.weaken {X : Cx} {e : List Expr} {t t' : TA} (h : PA X e t) (m : ∀ σ H Q, t' σ H Q → t σ H Q) : PA X e t' := ⟨fun pos pins s σ H Q I q => h.run pos pins s σ H Q I (m σ H Q q)⟩
theorem PS.weaken {X : Cx} {e : Stmt} {t t' : TS} (h : PS X e t) (m : ∀ D σ H, t' D σ H → t D σ H) : PS X e t' := ⟨fun pins s σ H D I q => h.run pins s σ H D I (m D σ H q)⟩
theorem PSs.weaken {X : Cx} {e : List Stmt} {t t' : TS} (h : PSs X e t) (m : ∀ D σ H, t' D σ H → t D σ H) : PSs X e t' := ⟨fun pins s σ H D I q => h.run pins s σ H D I (m D σ H q)⟩
end L2

set_option Elab.async false
set_option linter.all false
set_option maxRecDepth 100000
set_option maxHeartbeats 4000000
/-! SemB2: the operations of the evaluator against the rules of the layer. -/
namespace Fo
open PySem L2 LamX PyProof.Rows

theorem line_eq : (sizeLine : Nat) = line := sizeLine_eq
theorem sqt_mono {K : PySem.W.Frag} {H H' : Hp} {a : Addr} {xs : List V} (s : Same H H') (h : SqT K H a xs) : SqT K H' a xs := by
  rcases h with (h | ⟨o, h⟩) | h
  · exact .inl (.inl (s _ _ h))
  · exact .inl (.inr ⟨o, s _ _ h⟩)
  · exact .inr h

/-- a value's end: it lies over what stood and what is new -/
def Fin (K : PySem.W.Frag) (k H : Hp) (r : Option D) (Q : VK) : Prop :=
  match r with
  | some z => ∀ v k1 H1, Px k H k1 H1 → Dp K k1 v z → Q v H1
  | none => False
/-- told in k, or an own list of things told in k -/
def DpO (K : PySem.W.Frag) (k H : Hp) (x : V) (d : D) : Prop := Dp K k x d ∨ ∃ a xs vs, x = .ref a ∧ d = .list xs ∧ H a = some (.lst vs) ∧ DpAll K k vs xs
section
variable {X : Cx} {K : PySem.W.Frag} {k H : Hp} {Q : VK} {r : Option D}
theorem DpO.all {x : V} {d : D} (s : Same k H) (h : DpO K k H x d) : Dp K H x d := by
  rcases h with h | ⟨a, xs, vs, rfl, rfl, h1, h2⟩
  · exact dp_mono s h
  · exact .lst (.of h1) (dps_mono s h2)
theorem Fin.here {z : D} {v : V} (s : Same k H) (h : Fin K k H (some z) Q) (d : Dp K k v z) : Q v H := h v k H (.refl s) d
theorem Fin.int {i : Int} (s : Same k H) (h : Fin K k H (some (.int i)) Q) : Q (.int i) H := h.here s (.int i)
theorem Fin.bl {b : Bool} (s : Same k H) (h : Fin K k H (b2 b) Q) : Q (.bl b) H := h.here s (.bl b)
theorem Fin.str {b : Str} (s : Same k H) (h : Fin K k H (some (.str b)) Q) : Q (.str b) H := h.here s (.str b)
theorem Fin.tup {p : Addr} {ds : List D} {vs : List V} (s : Same k H) (h : Fin K k H (some (.tuple ds)) Q) (r : DpAll K k vs ds) (n : H p = none) : Q (.ref p) (upd H p (.tup vs)) := by
  have px := Px.alloc s n (o := .tup vs) (fun ps z => by cases z)
  exact h _ _ _ px (.tup (.of upd_same) (dps_mono px.kk r))
theorem Fin.lst {p : Addr} {ds : List D} {vs : List V} (s : Same k H) (h : Fin K k H (some (.list ds)) Q) (r : DpAll K k vs ds) (n : H p = none) : Q (.ref p) (upd H p (.lst vs)) := by
  have px := Px.alloc s n (o := .lst vs) (fun ps z => by cases z)
  exact h _ _ _ px (.lst (.of upd_same) (dps_mono px.kk r))
theorem Fin.ite {c : Prop} [Decidable c] {f : Option D} (h : Fin K k H (if c then f else none) Q) : c ∧ Fin K k H f Q := by
  by_cases hc : c
  · rw [if_pos hc] at h; exact ⟨hc, h⟩
  · rw [if_neg hc] at h; exact h.elim
theorem Fin.opt {α : Type} {o : Option α} {f : α → Option D} (h : Fin K k H (o.bind f) Q) : ∃ a, o = some a ∧ Fin K k H (f a) Q := by
  cases o with
  | none => exact h.elim
  | some a => exact ⟨a, rfl, h⟩

theorem Fin.opt0 {o : Option D} (h : Fin K k H o Q) : ∃ a, o = some a ∧ Fin K k H (some a) Q := by
  cases o with
  | none => exact h.elim
  | some a => exact ⟨a, rfl, h⟩

def rB (K : PySem.W.Frag) (f : D → D → Option D) : R2 := fun x y H Q => ∃ k dx dy, Same k H ∧ Dp K k x dx ∧ Dp K k y dy ∧ Fin K k H (f dx dy) Q
/-- the left part may be an own list -/
def rBO (K : PySem.W.Frag) (f : D → D → Option D) : R2 := fun x y H Q => ∃ k dx dy, Same k H ∧ DpO K k H x dx ∧ Dp K k y dy ∧ Fin K k H (f dx dy) Q

theorem op_catL : OpR X (binaryOp .Add) (fun x y H Q => ∃ l b xs zs, x = .ref l ∧ y = .ref b ∧ SqL X.K H l xs ∧ SqL X.K H b zs ∧ xs.length + zs.length ≤ sizeLine ∧ ∀ p, H p = none → Q (.ref p) (upd H p (.lst (xs ++ zs)))) := by
  intro pins s σ H x y v u Q I rx ry h
  obtain ⟨l, b, xs, zs, rfl, rfl, hH, hB, hz, q⟩ := h
  cases rx
  cases ry
  obtain ⟨its, r, hl, _⟩ := I.list hH
  obtain ⟨its2, r2, hl2, _⟩ := I.list hB
  have e1 := r.length
  have e2 := r2.length
  obtain ⟨⟨cls, dd, data, sl⟩, ho, hc, n, hd⟩ := hl.isList
  obtain ⟨⟨cls2, dd2, data2, sl2⟩, ho2, hc2, n2, hd2⟩ := hl2.isList
  simp only at hc hd hc2 hd2
  subst hc hd hc2 hd2
  refine PySem.concat_meets ⟨_, ho, rfl⟩ ⟨_, ho2, rfl⟩ noFill_list_add seq_list_add PySem.F.slot_list_add PySem.F.entry_list_add (PySem.F.args_list_add_2 _ _) (list_addW l b its.toArray its2.toArray n n2 dd dd2 sl sl2 (by simp only [List.size_toArray]; omega)) ⟨ho, ho2, ?_⟩
  have e : its.toArray ++ its2.toArray = (its ++ its2).toArray := by simp
  rw [e]
  exact ⟨.ref _, _, I.lnew (t' := s.toks) (r.append r2) (by rw [List.length_append]; omega), rfl, q _ I.fresh⟩

theorem int_sub_bb (a b : Bool) : Gives (Builtin.«int.__sub__» ⟨[.bool a, .bool b], []⟩) (.int ((if a = true then (1 : Int) else 0) - (if b = true then (1 : Int) else 0))) :=
  .of_wp fun M A E s Q h => by obtain ⟨hp, g, d, tk, os⟩ := s; wp_walk; exact ⟨_, rfl, h⟩
theorem sub_bb {prog : Program} {w : World} {A : Around} {E : Value → Shared → Prop} {s : Shared} {Q : Value → Shared → Prop} {a b : Bool} (h : Q (.int ((if a = true then (1 : Int) else 0) - (if b = true then (1 : Int) else 0)) s.toks) { s with toks := s.toks + 1 }) : wpAny (model prog w) A (binaryOp .Sub (.bool a) (.bool b)) Q E s :=
  binaryOp_gives (op := .Sub) (T := "bool") rfl rfl F.fills_bool_sub F.slot_bool_sub F.entry_int_sub (F.args_int_sub_2 _ _) (int_sub_bb a b) trivial h
theorem op_bb : OpR X (binaryOp .Sub) (fun x y H Q => ∃ i k, x = .bl i ∧ y = .bl k ∧ Q (.int ((if i = true then (1 : Int) else 0) - (if k = true then (1 : Int) else 0))) H) := by
  intro pins s σ H x y v u Q I rx ry h
  obtain ⟨i, k, rfl, rfl, q⟩ := h
  cases rx
  cases ry
  exact sub_bb ⟨.int _, H, I.tok _, ⟨_, rfl⟩, q⟩
theorem op_sub_bi : OpR X (binaryOp .Sub) (fun x y H Q => ∃ i k, x = .bl i ∧ y = .int k ∧ Q (.int ((if i = true then (1 : Int) else 0) - k)) H) := by
  intro pins s σ H x y v u Q I rx ry h
  obtain ⟨i, k, rfl, rfl, q⟩ := h
  cases rx
  obtain ⟨t, rfl⟩ := ry
  exact IntBool.sub_bool_int ⟨.int _, H, I.tok _, ⟨_, rfl⟩, q⟩
theorem op_add_bi : OpR X (binaryOp .Add) (fun x y H Q => ∃ i k, x = .bl i ∧ y = .int k ∧ Q (.int ((if i = true then (1 : Int) else 0) + k)) H) := by
  intro pins s σ H x y v u Q I rx ry h
  obtain ⟨i, k, rfl, rfl, q⟩ := h
  cases rx
  obtain ⟨t, rfl⟩ := ry
  exact IntBool.add_bool_int ⟨.int _, H, I.tok _, ⟨_, rfl⟩, q⟩
theorem bin_add : OpR X (binaryOp .Add) (rB X.K (binD .add)) := by
  rintro pins s σ H x y v u Q I rx ry ⟨k, dx, dy, sk, hx, hy, fin⟩
  cases hx with
  | int i => cases hy with
    | int j => exact op_add pins s σ H _ _ v u Q I rx ry ⟨i, j, rfl, rfl, fin.int sk⟩
    | _ => exact fin.elim
  | bl i => cases hy with
    | int j => exact op_add_bi pins s σ H _ _ v u Q I rx ry ⟨i, j, rfl, rfl, fin.int sk⟩
    | _ => exact fin.elim
  | str a => cases hy with
    | str b =>
      obtain ⟨hc, f⟩ := Fin.ite fin
      exact op_add_str pins s σ H _ _ v u Q I rx ry ⟨a, b, rfl, rfl, by rw [line_eq]; exact hc, f.str sk⟩
    | _ => exact fin.elim
  | tup h1 h2 => cases hy with
    | tup h3 h4 =>
      obtain ⟨hc, f⟩ := Fin.ite fin
      have l1 := h2.lenD
      have l2 := h4.lenD
      refine op_catA pins s σ H _ _ v u Q I rx ry ⟨_, _, _, _, rfl, rfl, sqt_mono sk h1, sqt_mono sk h3, by rw [line_eq, l1, l2]; exact hc, fun e => ?_, fun _ e => ?_, fun _ _ p hp => f.tup sk (h2.appD h4) hp⟩
      · subst e
        cases h2
        exact f.here sk (.tup h3 h4)
      · subst e
        cases h4
        rw [List.append_nil] at f
        exact f.here sk (.tup h1 h2)
    | _ => exact fin.elim
  | lst h1 h2 => cases hy with
    | lst h3 h4 =>
      obtain ⟨hc, f⟩ := Fin.ite fin
      have l1 := h2.lenD
      have l2 := h4.lenD
      exact op_catL pins s σ H _ _ v u Q I rx ry ⟨_, _, _, _, rfl, rfl, sk.seq h1, sk.seq h3, by rw [line_eq, l1, l2]; exact hc, fun p hp => f.lst sk (h2.appD h4) hp⟩
    | _ => exact fin.elim
  | _ => exact fin.elim
theorem bin_sub : OpR X (binaryOp .Sub) (rB X.K (binD .sub)) := by
  rintro pins s σ H x y v u Q I rx ry ⟨k, dx, dy, sk, hx, hy, fin⟩
  cases hx with
  | int i => cases hy with
    | int j => exact op_sub pins s σ H _ _ v u Q I rx ry ⟨i, j, rfl, rfl, fin.int sk⟩
    | _ => exact fin.elim
  | bl i => cases hy with
    | int j => exact op_sub_bi pins s σ H _ _ v u Q I rx ry ⟨i, j, rfl, rfl, fin.int sk⟩
    | bl j => exact op_bb pins s σ H _ _ v u Q I rx ry ⟨i, j, rfl, rfl, fin.int sk⟩
    | _ => exact fin.elim
  | _ => exact fin.elim
theorem mulOk_c {i j : Int} (h : mulOk i j = true) : CMul i j := by
  unfold mulOk at h
  simp only [Bool.or_eq_true, Bool.and_eq_true, decide_eq_true_eq] at h
  exact h
theorem reps_all {k : Hp} {vs : List V} {ds : List D} (h : DpAll K k vs ds) : ∀ n : Nat, DpAll K k (List.replicate n vs).flatten (reps n ds)
  | 0 => .nil
  | n + 1 => by
    unfold reps
    rw [List.replicate_succ, List.replicate_succ, List.flatten_cons, List.flatten_cons]
    exact h.appD (reps_all h n)
theorem op_mul_str : OpR X (binaryOp .Mult) (fun x y H Q => ∃ a k, x = .str a ∧ y = .int k ∧ 2 ≤ k ∧ k ≤ 1000 ∧ 1 ≤ a.length ∧ a.length ≤ 1000 ∧ Q (.str (Txt.mul a k)) H) := by
  intro pins s σ H x y v u Q I rx ry h
  obtain ⟨a, k, rfl, rfl, h1, h2, h3, h4, q⟩ := h
  obtain ⟨t, rfl⟩ := rx
  obtain ⟨t', rfl⟩ := ry
  have e63 : (2 : Int) ^ 63 = 9223372036854775808 := by decide +kernel
  have hok : MulOk a k := by
    refine ⟨?_, fun _ _ => ?_, fun _ _ => ?_⟩
    · rw [e63]
      simp only [Bool.or_eq_false_iff, decide_eq_false_iff_not]
      omega
    · rw [e63]
      have : (1001 : Int) ≤ (9223372036854775808 - 1) / k := (Int.le_ediv_iff_mul_le (by omega)).mpr (by omega)
      omega
    · unfold Builtin.Str.tooLong
      have b1 : a.length * k.toNat ≤ 1000 * 1000 := Nat.mul_le_mul h4 (by omega)
      have b2 : sizeLine = 16777216 := sizeLine_eq
      simp only [decide_eq_false_iff_not]
      omega
  exact SB.mul hok fun t' k' => ⟨.str (Txt.mul a k), H, I.tok _, ⟨_, rfl⟩, q⟩
theorem bin_mul : OpR X (binaryOp .Mult) (rB X.K (binD .mul)) := by
  rintro pins s σ H x y v u Q I rx ry ⟨k, dx, dy, sk, hx, hy, fin⟩
  cases hx with
  | int i => cases hy with
    | int j =>
      obtain ⟨hc, f⟩ := Fin.ite fin
      exact op_mul pins s σ H _ _ v u Q I rx ry ⟨i, j, rfl, rfl, mulOk_c hc, f.int sk⟩
    | _ => exact fin.elim
  | str a => cases hy with
    | int j =>
      obtain ⟨⟨c1, c2, c3, c4⟩, f⟩ := Fin.ite fin
      exact op_mul_str pins s σ H _ _ v u Q I rx ry ⟨a, j, rfl, rfl, c1, c2, c3, c4, f.str sk⟩
    | _ => exact fin.elim
  | tup h1 h2 => cases hy with
    | int j =>
      obtain ⟨⟨c1, c2, c3, c4⟩, f⟩ := Fin.ite fin
      have l1 := h2.lenD
      refine op_repT pins s σ H _ _ v u Q I rx ry ⟨_, j, _, rfl, rfl, sqt_mono sk h1, fun e => ?_, c2, c3, by rw [l1]; exact c4, fun p hp => f.tup sk (reps_all h2 _) hp⟩
      subst e
      cases h2
      exact c1 rfl
    | _ => exact fin.elim
  | _ => exact fin.elim
theorem bin_fdiv : OpR X (binaryOp .FloorDiv) (rB X.K (binD .fdiv)) := by
  rintro pins s σ H x y v u Q I rx ry ⟨k, dx, dy, sk, hx, hy, fin⟩
  cases hx with
  | int i => cases hy with
    | int j =>
      obtain ⟨hc, f⟩ := Fin.ite fin
      unfold divOk at hc
      simp only [Bool.or_eq_true, Bool.and_eq_true, decide_eq_true_eq] at hc
      rcases hc with ⟨c1, c2⟩ | ⟨c1, c2⟩
      · exact op_fdivN pins s σ H _ _ v u Q I rx ry ⟨i, j, rfl, rfl, ⟨c1, c2⟩, f.int sk⟩
      · refine op_fdivW pins s σ H _ _ v u Q I rx ry ⟨i, j, rfl, rfl, wide_div c1 c2 (by decide) (by decide), ?_⟩
        rw [Int.fdiv_eq_ediv_of_nonneg i (by omega)] at f
        exact f.int sk
    | _ => exact fin.elim
  | _ => exact fin.elim
theorem bin_mod : OpR X (binaryOp .Mod) (rB X.K (binD .mod)) := by
  rintro pins s σ H x y v u Q I rx ry ⟨k, dx, dy, sk, hx, hy, fin⟩
  cases hx with
  | int i => cases hy with
    | int j =>
      obtain ⟨hc, f⟩ := Fin.ite fin
      exact op_modN pins s σ H _ _ v u Q I rx ry ⟨i, j, rfl, rfl, hc, f.int sk⟩
    | _ => exact fin.elim
  | _ => exact fin.elim
theorem bin_pow : OpR X (binaryOp .Pow) (rB X.K (binD .pow)) := by
  rintro pins s σ H x y v u Q I rx ry ⟨k, dx, dy, sk, hx, hy, fin⟩
  cases hx with
  | int i => cases hy with
    | int j =>
      obtain ⟨hc, f⟩ := Fin.ite fin
      exact op_pow pins s σ H _ _ v u Q I rx ry ⟨i, j, rfl, rfl, hc, f.int sk⟩
    | _ => exact fin.elim
  | _ => exact fin.elim
def opB : BOp → Operator
  | .add => .Add | .sub => .Sub | .mul => .Mult | .fdiv => .FloorDiv | .mod => .Mod | .pow => .Pow
theorem bin_ok (o : BOp) : OpR X (binaryOp (opB o)) (rB X.K (binD o)) := by
  cases o with
  | add => exact bin_add
  | sub => exact bin_sub
  | mul => exact bin_mul
  | fdiv => exact bin_fdiv
  | mod => exact bin_mod
  | pow => exact bin_pow

/-! ### comparisons -/
theorem eqv_scal {H : Hp} {x y : V} {d e : D} (hx : Dp K H x d) (hy : Dp K H y e) (s1 : scalD d = true) (s2 : scalD e = true) : scal x y = true ∧ decide (x = y) = PyData.eqv d e := by
  cases hx with
  | non => cases hy with
    | non => exact ⟨rfl, rfl⟩
    | int j => exact ⟨rfl, rfl⟩
    | str j => exact ⟨rfl, rfl⟩
    | _ => cases s2
  | int i => cases hy with
    | non => exact ⟨rfl, rfl⟩
    | int j => exact ⟨rfl, by rw [dec_int]; rfl⟩
    | str j => exact ⟨rfl, by simp [PyData.eqv]⟩
    | _ => cases s2
  | str i => cases hy with
    | non => exact ⟨rfl, rfl⟩
    | int j => exact ⟨rfl, by simp [PyData.eqv]⟩
    | str j => exact ⟨rfl, by rw [dec_str]; rfl⟩
    | _ => cases s2
  | _ => cases s1
theorem cmp_eq (hu : X.A.units + 64 < cLine) : OpR X (compareOp .Eq) (rBO X.K (cmpD .eq)) := by
  rintro pins s σ H x y v u Q I rx ry ⟨k, dx, dy, sk, hx, hy, fin⟩
  have fin : Fin X.K k H (if eqOk dx dy = true then b2 (PyData.eqv dx dy) else none) Q := by cases dx <;> cases dy <;> exact fin
  obtain ⟨hc, f⟩ := Fin.ite fin
  unfold eqOk at hc
  simp only [Bool.or_eq_true, Bool.and_eq_true] at hc
  have hx' := hx.all sk
  have hy' := dp_mono sk hy
  rcases hc with ⟨c1, c2⟩ | ⟨c1, c2⟩
  · obtain ⟨e1, e2⟩ := eqv_scal hx' hy' c1 c2
    refine op_eq pins s σ H x y v u Q I rx ry ⟨e1, ?_⟩
    rw [e2]
    exact f.bl sk
  · exact op_eqD hu pins s σ H x y v u Q I rx ry ⟨dx, dy, hx', hy', c1, c2, f.bl sk⟩
theorem cmp_ne (hu : X.A.units + 64 < cLine) : OpR X (compareOp .NotEq) (rBO X.K (cmpD .ne)) := by
  rintro pins s σ H x y v u Q I rx ry ⟨k, dx, dy, sk, hx, hy, fin⟩
  have fin : Fin X.K k H (if eqOk dx dy = true then b2 (!PyData.eqv dx dy) else none) Q := by cases dx <;> cases dy <;> exact fin
  obtain ⟨hc, f⟩ := Fin.ite fin
  unfold eqOk at hc
  simp only [Bool.or_eq_true, Bool.and_eq_true] at hc
  have hx' := hx.all sk
  have hy' := dp_mono sk hy
  rcases hc with ⟨c1, c2⟩ | ⟨c1, c2⟩
  · obtain ⟨e1, e2⟩ := eqv_scal hx' hy' c1 c2
    refine op_ne pins s σ H x y v u Q I rx ry ⟨e1, ?_⟩
    rw [e2]
    exact f.bl sk
  · exact op_neD hu pins s σ H x y v u Q I rx ry ⟨dx, dy, hx', hy', c1, c2, f.bl sk⟩
theorem DpO.int' {x : V} {i : Int} (h : DpO K k H x (.int i)) : x = .int i := by
  rcases h with h | ⟨_, _, _, _, z, _⟩
  · cases h; rfl
  · cases z
theorem dp_int {x : V} {i : Int} (h : Dp K k x (.int i)) : x = .int i := by cases h; rfl
theorem dp_str {x : V} {i : Str} (h : Dp K k x (.str i)) : x = .str i := by cases h; rfl
theorem DpO.str' {x : V} {i : Str} (h : DpO K k H x (.str i)) : x = .str i := by
  rcases h with h | ⟨_, _, _, _, z, _⟩
  · cases h; rfl
  · cases z
theorem cmp_lt : OpR X (compareOp .Lt) (rBO X.K (cmpD .lt)) := by
  rintro pins s σ H x y v u Q I rx ry ⟨k, dx, dy, sk, hx, hy, fin⟩
  cases dx with
  | int i => cases dy with
    | int j => exact op_lt pins s σ H x y v u Q I rx ry ⟨i, j, hx.int', dp_int hy, fin.bl sk⟩
    | _ => exact fin.elim
  | _ => exact fin.elim
theorem cmp_le : OpR X (compareOp .LtE) (rBO X.K (cmpD .le)) := by
  rintro pins s σ H x y v u Q I rx ry ⟨k, dx, dy, sk, hx, hy, fin⟩
  cases dx with
  | int i => cases dy with
    | int j => exact op_le pins s σ H x y v u Q I rx ry ⟨i, j, hx.int', dp_int hy, fin.bl sk⟩
    | _ => exact fin.elim
  | _ => exact fin.elim
theorem cmp_gt : OpR X (compareOp .Gt) (rBO X.K (cmpD .gt)) := by
  rintro pins s σ H x y v u Q I rx ry ⟨k, dx, dy, sk, hx, hy, fin⟩
  cases dx with
  | int i => cases dy with
    | int j => exact op_gt pins s σ H x y v u Q I rx ry ⟨i, j, hx.int', dp_int hy, fin.bl sk⟩
    | _ => exact fin.elim
  | _ => exact fin.elim
theorem cmp_ge : OpR X (compareOp .GtE) (rBO X.K (cmpD .ge)) := by
  rintro pins s σ H x y v u Q I rx ry ⟨k, dx, dy, sk, hx, hy, fin⟩
  cases dx with
  | int i => cases dy with
    | int j => exact op_ge pins s σ H x y v u Q I rx ry ⟨i, j, hx.int', dp_int hy, fin.bl sk⟩
    | _ => exact fin.elim
  | _ => exact fin.elim
theorem room_in {d : D} {ds : List D} {u : Nat} (sd : SeqAt.shaped d = true) (hu : u + 65 < cLine) : u + 1 + min (PyData.depthAll ds) d.depth < cLine := by
  have h1 := SeqAt.depth_of_shaped sd
  have h2 : min (PyData.depthAll ds) d.depth ≤ d.depth := Nat.min_le_right _ _
  omega
theorem lay_all {ds : List D} (h : SeqAt.shaped (.list ds) = true) : PyData.canLayAll0 ds = true := SeqAt.canLay_of_shaped h
theorem cmp_in (hu : X.A.units + 65 < cLine) : OpR X (compareOp .In) (rBO X.K (cmpD .isin)) := by
  rintro pins s σ H x y v u Q I rx ry ⟨k, dx, dy, sk, hx, hy, fin⟩
  have hx' := hx.all sk
  have hy' := dp_mono sk hy
  cases dy with
  | str j => cases dx with
    | str i => exact op_in_str pins s σ H x y v u Q I rx ry ⟨i, j, hx.str', dp_str hy, fin.bl sk⟩
    | _ => exact fin.elim
  | tuple ds =>
    have fin : Fin X.K k H (if inOk dx ds = true then b2 (ds.any fun z => PyData.eqv z dx) else none) Q := by cases dx <;> exact fin
    obtain ⟨hc, f⟩ := Fin.ite fin
    unfold inOk at hc
    rw [Bool.and_eq_true] at hc
    obtain ⟨as, r1⟩ := Dp.reads I dx x v hx' rx
    obtain ⟨bs, r2⟩ := Dp.reads I (.tuple ds) y u hy' ry
    exact SeqAt.in_tuple_reads r2 r1 (lay_all hc.2) (SeqAt.canLay_of_shaped hc.1) (room_in hc.1 hu) ⟨.bl _, H, I, rfl, f.bl sk⟩
  | list ds =>
    have fin : Fin X.K k H (if inOk dx ds = true then b2 (ds.any fun z => PyData.eqv z dx) else none) Q := by cases dx <;> exact fin
    obtain ⟨hc, f⟩ := Fin.ite fin
    unfold inOk at hc
    rw [Bool.and_eq_true] at hc
    obtain ⟨as, r1⟩ := Dp.reads I dx x v hx' rx
    obtain ⟨bs, r2⟩ := Dp.reads I (.list ds) y u hy' ry
    exact SeqAt.in_list_reads r2 r1 (lay_all hc.2) (SeqAt.canLay_of_shaped hc.1) (room_in hc.1 hu) ⟨.bl _, H, I, rfl, f.bl sk⟩
  | _ => cases dx <;> exact fin.elim
theorem cmp_notin (hu : X.A.units + 65 < cLine) : OpR X (compareOp .NotIn) (rBO X.K (cmpD .notin)) := by
  rintro pins s σ H x y v u Q I rx ry ⟨k, dx, dy, sk, hx, hy, fin⟩
  have hx' := hx.all sk
  have hy' := dp_mono sk hy
  cases dy with
  | tuple ds =>
    have fin : Fin X.K k H (if inOk dx ds = true then b2 (!ds.any fun z => PyData.eqv z dx) else none) Q := by cases dx <;> exact fin
    obtain ⟨hc, f⟩ := Fin.ite fin
    unfold inOk at hc
    rw [Bool.and_eq_true] at hc
    obtain ⟨as, r1⟩ := Dp.reads I dx x v hx' rx
    obtain ⟨bs, r2⟩ := Dp.reads I (.tuple ds) y u hy' ry
    exact SeqAt.notIn_tuple_reads r2 r1 (lay_all hc.2) (SeqAt.canLay_of_shaped hc.1) (room_in hc.1 hu) ⟨.bl _, H, I, rfl, f.bl sk⟩
  | list ds =>
    have fin : Fin X.K k H (if inOk dx ds = true then b2 (!ds.any fun z => PyData.eqv z dx) else none) Q := by cases dx <;> exact fin
    obtain ⟨hc, f⟩ := Fin.ite fin
    unfold inOk at hc
    rw [Bool.and_eq_true] at hc
    obtain ⟨as, r1⟩ := Dp.reads I dx x v hx' rx
    obtain ⟨bs, r2⟩ := Dp.reads I (.list ds) y u hy' ry
    exact SeqAt.notIn_list_reads r2 r1 (lay_all hc.2) (SeqAt.canLay_of_shaped hc.1) (room_in hc.1 hu) ⟨.bl _, H, I, rfl, f.bl sk⟩
  | _ => cases dx <;> exact fin.elim
def opC : COp → CmpOp
  | .eq => .Eq | .ne => .NotEq | .lt => .Lt | .le => .LtE | .gt => .Gt | .ge => .GtE | .isin => .In | .notin => .NotIn
theorem cmp_ok (hu : X.A.units + 65 < cLine) (o : COp) : OpR X (compareOp (opC o)) (rBO X.K (cmpD o)) := by
  have hu' : X.A.units + 64 < cLine := Nat.lt_trans (Nat.lt_succ_self _) hu
  cases o with
  | eq => exact cmp_eq hu'
  | ne => exact cmp_ne hu'
  | lt => exact cmp_lt
  | le => exact cmp_le
  | gt => exact cmp_gt
  | ge => exact cmp_ge
  | isin => exact cmp_in hu
  | notin => exact cmp_notin hu

/-! ### truth -/
theorem tru_of {x : V} {d : D} {b : Bool} (s : Same k H) (h : Dp K k x d) (e : truthD d = some b) : TruV K x H b := by
  cases h with
  | non => cases e; rfl
  | bl c => cases e; rfl
  | int i => cases e; rfl
  | str z =>
    have e : (if z.length ≤ line then some ((z.length : Int) != 0) else none) = some b := e
    by_cases hz : z.length ≤ line
    · rw [if_pos hz] at e; cases e
      exact ⟨by rw [line_eq]; exact hz, rfl⟩
    · rw [if_neg hz] at e; cases e
  | lst h1 h2 => cases e; exact .inl ⟨_, s.seq h1, by cases h2 <;> rfl⟩
  | tup h1 h2 => cases e; exact .inr (.inl ⟨_, sqt_mono s h1, by cases h2 <;> rfl⟩)

/-! ### subscripts, slices -/
theorem atI_all {vs : List V} {ds : List D} {i : Int} {d : D} (h : DpAll K k vs ds) (e : atI ds i = some d) : ∃ v, atI vs i = some v ∧ Dp K k v d := by
  unfold atI at e ⊢
  rw [h.lenD]
  cases q : ixN ds.length i with
  | none => rw [q] at e; cases e
  | some j =>
    rw [q] at e
    exact h.getD e
theorem ix_ok {x y : V} (h : rBO K ixD x y H Q) : rIx K x y H Q := by
  obtain ⟨k, dx, dy, sk, hx, hy, fin⟩ := h
  cases dx with
  | tuple xs => cases dy with
    | int i =>
      obtain ⟨a, e, f⟩ := Fin.opt0 fin
      rcases hx with hx | ⟨_, _, _, _, z, _⟩
      · cases hx with
        | tup h1 h2 =>
          obtain ⟨v, e1, e2⟩ := atI_all h2 e
          exact .inr (.inl ⟨_, _, i, v, rfl, dp_int hy, sqt_mono sk h1, e1, f.here sk e2⟩)
      · cases z
    | _ => exact fin.elim
  | list xs => cases dy with
    | int i =>
      obtain ⟨a, e, f⟩ := Fin.opt0 fin
      rcases hx with hx | ⟨a', xs', vs, rfl, z, e3, e4⟩
      · cases hx with
        | lst h1 h2 =>
          obtain ⟨v, e1, e2⟩ := atI_all h2 e
          exact .inl ⟨_, _, i, v, rfl, dp_int hy, sk.seq h1, e1, f.here sk e2⟩
      · cases z
        obtain ⟨v, e1, e2⟩ := atI_all e4 e
        exact .inl ⟨_, _, i, v, rfl, dp_int hy, .of e3, e1, f.here sk e2⟩
    | _ => exact fin.elim
  | str z => cases dy with
    | int i =>
      obtain ⟨hc, f⟩ := Fin.ite fin
      obtain ⟨c, e, f⟩ := Fin.opt f
      exact .inr (.inr ⟨z, i, c, hx.str', dp_int hy, by rw [line_eq]; exact hc, e, f.str sk⟩)
    | _ => exact fin.elim
  | _ => exact fin.elim
theorem cut_all {vs : List V} {ds : List D} (h : DpAll K k vs ds) (lo hi : Option Int) : DpAll K k (cutV vs lo hi) (cutD ds lo hi) := by
  unfold cutV cutD
  rw [h.lenD]
  exact (h.dropD _).takeD _
def rSx (K : PySem.W.Frag) : V → Option Int → Option Int → Hp → VK → Prop := fun x lo hi H Q => (rSlA K x lo hi H Q ∨ rSlL K x lo hi H Q) ∨ rSlS x lo hi H Q
theorem sl_any : SlR X (rSx X.K) := (sl_tupA.or sl_list).or sl_str
theorem cutS_D (z : Str) (lo hi : Option Int) : cutS z lo hi = ⟨(cutD z.cps.toList lo hi).toArray⟩ := by
  unfold cutS cutD
  rw [Array.length_toList]
  rfl
theorem sl_ok {x : V} {d : D} {lo hi : Option Int} (sk : Same k H) (hx : Dp K k x d) (fin : Fin K k H (slD d lo hi) Q) : rSx K x lo hi H Q := by
  cases hx with
  | tup h1 h2 =>
    refine .inl (.inl ⟨_, _, rfl, sqt_mono sk h1, fun e => ?_, fun _ p hp => Fin.tup sk fin (cut_all h2 lo hi) hp⟩)
    have fin' : Fin K k H (some (.tuple (cutD _ lo hi))) Q := fin
    have e' : ∀ {ds : List D}, DpAll K k _ ds → cutD ds lo hi = ds := fun {ds} h => by
      unfold cutD
      rw [← h.lenD, e.1, e.2, List.drop_zero, Nat.sub_zero, h.lenD, List.take_length]
    rw [e' h2] at fin'
    exact fin'.here sk (.tup h1 h2)
  | lst h1 h2 => exact .inl (.inr ⟨_, _, rfl, sk.seq h1, fun p hp => Fin.lst sk fin (cut_all h2 lo hi) hp⟩)
  | str z =>
    obtain ⟨hc, f⟩ := Fin.ite fin
    exact .inr ⟨z, rfl, by rw [line_eq]; exact hc, by rw [cutS_D]; exact f.str sk⟩
  | _ => exact fin.elim

/-! ### isinstance -/
def tyN : Ty → String
  | .int => "int" | .bool => "bool" | .str => "str" | .tuple => "tuple" | .list => "list"
theorem sqt_ty {a : Addr} {xs : List V} (h : SqT K H a xs) : TyX K H (.ref a) (.type "tuple") := by
  rcases h with (h | ⟨o, h⟩) | ⟨o, its, n, h1, h2, _⟩
  · exact .base (.tup h)
  · exact .fTuple h
  · exact .kTuple h1 h2
theorem sql_ty {a : Addr} {xs : List V} (h : SqL K H a xs) : TyX K H (.ref a) (.type "list") := by
  rcases h with (h | ⟨o, h⟩) | ⟨o, its, n, h1, h2, _⟩
  · exact .base (.lst h)
  · exact .base (.frz h)
  · exact .kList h1 h2
theorem isi_ok {x : V} {d : D} {t : Ty} (sk : Same k H) (hx : Dp K k x d) (fin : Fin K k H (isD d t) Q) : rIsi K [x, .ty (tyN t)] H Q := by
  cases hx with
  | non => cases t <;> exact ⟨_, _, _, _, false, rfl, .ty _, .base .non, kit_ty (by decide +kernel), Fin.bl sk fin⟩
  | bl b =>
    cases t with
    | int => exact ⟨_, _, _, _, true, rfl, .ty _, .base (.bl b), kit_ty (by decide +kernel), Fin.bl sk fin⟩
    | bool => exact ⟨_, _, _, _, true, rfl, .ty _, .base (.bl b), kit_ty (by decide +kernel), Fin.bl sk fin⟩
    | _ => exact ⟨_, _, _, _, false, rfl, .ty _, .base (.bl b), kit_ty (by decide +kernel), Fin.bl sk fin⟩
  | int b =>
    cases t with
    | int => exact ⟨_, _, _, _, true, rfl, .ty _, .base (.int b), kit_ty (by decide +kernel), Fin.bl sk fin⟩
    | _ => exact ⟨_, _, _, _, false, rfl, .ty _, .base (.int b), kit_ty (by decide +kernel), Fin.bl sk fin⟩
  | str b =>
    cases t with
    | str => exact ⟨_, _, _, _, true, rfl, .ty _, .base (.str b), kit_ty (by decide +kernel), Fin.bl sk fin⟩
    | _ => exact ⟨_, _, _, _, false, rfl, .ty _, .base (.str b), kit_ty (by decide +kernel), Fin.bl sk fin⟩
  | tup h1 h2 =>
    cases t with
    | tuple => exact ⟨_, _, _, _, true, rfl, .ty _, sqt_ty (sqt_mono sk h1), kit_ty (by decide +kernel), Fin.bl sk fin⟩
    | _ => exact ⟨_, _, _, _, false, rfl, .ty _, sqt_ty (sqt_mono sk h1), kit_ty (by decide +kernel), Fin.bl sk fin⟩
  | lst h1 h2 =>
    cases t with
    | list => exact ⟨_, _, _, _, true, rfl, .ty _, sql_ty (sk.seq h1), kit_ty (by decide +kernel), Fin.bl sk fin⟩
    | _ => exact ⟨_, _, _, _, false, rfl, .ty _, sql_ty (sk.seq h1), kit_ty (by decide +kernel), Fin.bl sk fin⟩

/-! ### built-ins -/
def rBi (K : PySem.W.Frag) (b : Bi) : List V → Hp → VK → Prop := fun xs H Q => ∃ k ds, Same k H ∧ DpAll K k xs ds ∧ Fin K k H (biD b ds) Q
theorem bools_all {vs : List V} {ds : List D} (h : DpAll K k vs ds) : ∀ {bs : List Bool}, boolsOf ds = some bs → vs = bs.map V.bl := by
  have gen : ∀ (ds : List D) (vs : List V), DpAll K k vs ds → ∀ {bs : List Bool}, boolsOf ds = some bs → vs = bs.map V.bl := by
    intro ds
    induction ds with
    | nil => intro vs h bs e; cases h; cases e; rfl
    | cons d r ih =>
      intro vs h bs e
      cases h with
      | cons h1 h2 =>
        cases h1 with
        | bl b =>
          cases q : boolsOf r with
          | none => simp [boolsOf, q] at e
          | some cs =>
            simp [boolsOf, q] at e
            subst e
            rw [ih _ h2 q]; rfl
        | _ => cases e
  intro bs e
  exact gen ds vs h e
theorem strs_all {vs : List V} {ds : List D} (h : DpAll K k vs ds) : ∀ {bs : List Str}, strsOf ds = some bs → vs = bs.map V.str := by
  have gen : ∀ (ds : List D) (vs : List V), DpAll K k vs ds → ∀ {bs : List Str}, strsOf ds = some bs → vs = bs.map V.str := by
    intro ds
    induction ds with
    | nil => intro vs h bs e; cases h; cases e; rfl
    | cons d r ih =>
      intro vs h bs e
      cases h with
      | cons h1 h2 =>
        cases h1 with
        | str b =>
          cases q : strsOf r with
          | none => simp [strsOf, q] at e
          | some cs =>
            simp [strsOf, q] at e
            subst e
            rw [ih _ h2 q]; rfl
        | _ => cases e
  intro bs e
  exact gen ds vs h e
theorem strs_dp : ∀ ys : List Str, DpAll K k (ys.map V.str) (ys.map PyData.str)
  | [] => .nil
  | y :: r => .cons (.str y) (strs_dp r)
theorem one_dp {xs : List V} {d : D} (h : DpAll K k xs [d]) : ∃ x, xs = [x] ∧ Dp K k x d := by
  cases h with
  | cons h1 h2 => cases h2; exact ⟨_, rfl, h1⟩
theorem bi1 {b : Bi} {xs : List V} {d : D} (h : DpAll K k xs [d]) : True := trivial
theorem bi_len : CallR X (.builtin "len") (fun xs H Q => ∃ k x d, Same k H ∧ xs = [x] ∧ DpO X.K k H x d ∧ Fin X.K k H (biD .len [d]) Q) := by
  rintro pins s σ H xs us Q I rs ⟨k, x, d, sk, rfl, hx, fin⟩
  refine call_len pins s σ H _ us Q I rs ?_
  have hx' := hx.all sk
  cases hx' with
  | str z =>
    obtain ⟨hc, f⟩ := Fin.ite fin
    exact ⟨_, z.length, rfl, ⟨by rw [line_eq]; exact hc, rfl⟩, f.int sk⟩
  | lst h1 h2 =>
    refine ⟨_, _, rfl, .inl ⟨_, h1, rfl⟩, ?_⟩
    rw [h2.lenD]
    exact Fin.int sk fin
  | tup h1 h2 =>
    refine ⟨_, _, rfl, .inr ⟨_, h1, rfl⟩, ?_⟩
    rw [h2.lenD]
    exact Fin.int sk fin
  | _ => exact fin.elim
theorem bi_abs : CallR X (.builtin "abs") (rBi X.K .abs) := by
  rintro pins s σ H xs us Q I rs ⟨k, ds, sk, hx, fin⟩
  match ds, hx, fin with
  | [.int i], hx, fin =>
    obtain ⟨x, rfl, h⟩ := one_dp hx
    exact call_abs pins s σ H _ us Q I rs ⟨i, by rw [dp_int h], Fin.int sk fin⟩
theorem bi_all (hc : X.calm = true) : CallR X (.builtin "all") (rBi X.K .all) := by
  rintro pins s σ H xs us Q I rs ⟨k, ds, sk, hx, fin⟩
  match ds, hx, fin with
  | [.list ys], hx, fin =>
    obtain ⟨x, rfl, h⟩ := one_dp hx
    obtain ⟨bs, e, f⟩ := Fin.opt fin
    cases h with
    | lst h1 h2 =>
      have ev := bools_all h2 e
      subst ev
      exact cr_all hc pins s σ H _ us Q I rs ⟨_, bs, rfl, sk.seq h1, f.bl sk⟩
theorem bi_any (hc : X.calm = true) : CallR X (.builtin "any") (rBi X.K .any) := by
  rintro pins s σ H xs us Q I rs ⟨k, ds, sk, hx, fin⟩
  match ds, hx, fin with
  | [.list ys], hx, fin =>
    obtain ⟨x, rfl, h⟩ := one_dp hx
    obtain ⟨bs, e, f⟩ := Fin.opt fin
    cases h with
    | lst h1 h2 =>
      have ev := bools_all h2 e
      subst ev
      exact cr_any hc pins s σ H _ us Q I rs ⟨_, bs, rfl, sk.seq h1, f.bl sk⟩
theorem bi_min2 (hc : X.calm = true) : CallR X (.builtin "min") (rBi X.K .min2) := by
  rintro pins s σ H xs us Q I rs ⟨k, ds, sk, hx, fin⟩
  match ds, hx, fin with
  | [.int i, .int j], hx, fin =>
    cases hx with
    | cons h1 h2 =>
      obtain ⟨y, rfl, h3⟩ := one_dp h2
      exact call_min2 hc pins s σ H _ us Q I rs ⟨i, j, by rw [dp_int h1, dp_int h3], Fin.int sk fin⟩
theorem bi_int : CallR X (.type "int") (rBi X.K .int) := by
  rintro pins s σ H xs us Q I rs ⟨k, ds, sk, hx, fin⟩
  match ds, hx, fin with
  | [.int i], hx, fin =>
    obtain ⟨x, rfl, h⟩ := one_dp hx
    exact call_int1 pins s σ H _ us Q I rs (.inl ⟨i, by rw [dp_int h], Fin.int sk fin⟩)
  | [.bool b], hx, fin =>
    obtain ⟨x, rfl, h⟩ := one_dp hx
    cases h
    exact call_int1 pins s σ H _ us Q I rs (.inr ⟨b, rfl, Fin.int sk fin⟩)
  | [.str z], hx, fin =>
    obtain ⟨x, rfl, h⟩ := one_dp hx
    obtain ⟨hc, f⟩ := Fin.ite fin
    obtain ⟨n, e, f⟩ := Fin.opt f
    exact call_int_str pins s σ H _ us Q I rs ⟨z, n, by rw [dp_str h], e, hc, f.int sk⟩
theorem bi_str : CallR X (.type "str") (rBi X.K .str) := by
  rintro pins s σ H xs us Q I rs ⟨k, ds, sk, hx, fin⟩
  match ds, hx, fin with
  | [.int i], hx, fin =>
    obtain ⟨x, rfl, h⟩ := one_dp hx
    obtain ⟨hc, f⟩ := Fin.ite fin
    exact call_str_int pins s σ H _ us Q I rs ⟨i, by rw [dp_int h], hc, f.str sk⟩
  | [.str z], hx, fin =>
    obtain ⟨x, rfl, h⟩ := one_dp hx
    exact SkE.call_str_str pins s σ H _ us Q I rs ⟨z, by rw [dp_str h], Fin.str sk fin⟩
theorem bi_bool : CallR X (.type "bool") (rBi X.K .bool) := by
  rintro pins s σ H xs us Q I rs ⟨k, ds, sk, hx, fin⟩
  match ds, hx, fin with
  | [.int i], hx, fin =>
    obtain ⟨x, rfl, h⟩ := one_dp hx
    exact call_bool1 pins s σ H _ us Q I rs (.inl ⟨i, by rw [dp_int h], Fin.bl sk fin⟩)
  | [.bool b], hx, fin =>
    obtain ⟨x, rfl, h⟩ := one_dp hx
    cases h
    exact call_bool1 pins s σ H _ us Q I rs (.inr ⟨b, rfl, Fin.bl sk fin⟩)
theorem bi_list : CallR X (.type "list") (rBi X.K .list) := by
  rintro pins s σ H xs us Q I rs ⟨k, ds, sk, hx, fin⟩
  match ds, hx, fin with
  | [.list ys], hx, fin =>
    obtain ⟨x, rfl, h⟩ := one_dp hx
    cases h with
    | lst h1 h2 => exact call_list_of pins s σ H _ us Q I rs ⟨_, _, rfl, .inl (sk.seq h1), fun p hp => Fin.lst sk fin h2 hp⟩
  | [.tuple ys], hx, fin =>
    obtain ⟨x, rfl, h⟩ := one_dp hx
    cases h with
    | tup h1 h2 => exact call_list_of pins s σ H _ us Q I rs ⟨_, _, rfl, .inr (sqt_mono sk h1), fun p hp => Fin.lst sk fin h2 hp⟩
theorem bi_tuple : CallR X (.type "tuple") (rBi X.K .tuple) := by
  rintro pins s σ H xs us Q I rs ⟨k, ds, sk, hx, fin⟩
  match ds, hx, fin with
  | [.list ys], hx, fin =>
    obtain ⟨x, rfl, h⟩ := one_dp hx
    cases h with
    | lst h1 h2 => exact call_tuple_of pins s σ H _ us Q I rs ⟨_, _, rfl, .inl ⟨sk.seq h1, fun p hp => Fin.tup sk fin h2 hp⟩⟩
  | [.tuple ys], hx, fin =>
    obtain ⟨x, rfl, h⟩ := one_dp hx
    cases h with
    | tup h1 h2 => exact call_tuple_of pins s σ H _ us Q I rs ⟨_, _, rfl, .inr ⟨sqt_mono sk h1, Fin.here sk fin (.tup h1 h2)⟩⟩

/-! ### methods -/
theorem mt_split' {x : V} {xs : List V} {d : D} {ds : List D} (sk : Same k H) (hx : Dp K k x d) (hs : DpAll K k xs ds) (fin : Fin K k H (mthD .split d ds) Q) :
    tyV K "str" x H ∧ ∃ a b, x = .str a ∧ xs = [.str b] ∧ (b.length == 0) = false ∧ a.length + 2 ≤ sizeLine ∧ rNewStrs (Txt.split a b) H Q := by
  match d, ds, hx, hs, fin with
  | .str a, [.str b], hx, hs, fin =>
    obtain ⟨y, rfl, h⟩ := one_dp hs
    rw [dp_str hx, dp_str h]
    obtain ⟨⟨c1, c2⟩, f⟩ := Fin.ite fin
    exact ⟨rfl, a, b, rfl, rfl, c1, by rw [line_eq]; exact c2, fun p hp => Fin.lst sk f (strs_dp _) hp⟩
theorem mt_join' {x : V} {xs : List V} {d : D} {ds : List D} (sk : Same k H) (hx : Dp K k x d) (hs : DpAll K k xs ds) (fin : Fin K k H (mthD .join d ds) Q) :
    tyV K "str" x H ∧ ∃ a p, ∃ ys : List Str, x = .str a ∧ xs = [.ref p] ∧ (SqL K H p (ys.map V.str) ∨ SqT K H p (ys.map V.str)) ∧ (ys.map (·.length)).sum + ys.length * a.length ≤ 16777216 ∧ Q (.str (Txt.join a ys)) H := by
  match d, ds, hx, hs, fin with
  | .str a, [.list zs], hx, hs, fin =>
    obtain ⟨y, rfl, h⟩ := one_dp hs
    rw [dp_str hx]
    obtain ⟨ys, e, f⟩ := Fin.opt fin
    obtain ⟨hc, f⟩ := Fin.ite f
    cases h with
    | lst h1 h2 =>
      have ev := strs_all h2 e
      subst ev
      exact ⟨rfl, a, _, ys, rfl, rfl, .inl (sk.seq h1), hc, f.str sk⟩
theorem find_at : ∀ {ds : List D} {d : D} {n : Nat}, findD ds d = some n → (∃ z, ds[n]? = some z ∧ PyData.eqv z d = true) ∧ ∀ (m : Nat) (z' : D), m < n → ds[m]? = some z' → PyData.eqv z' d = false
  | [], d, n, e => by cases e
  | y :: r, d, n, e => by
    unfold findD at e
    by_cases hy : PyData.eqv y d = true
    · rw [if_pos hy] at e
      cases e
      exact ⟨⟨y, rfl, hy⟩, fun m z' hm => absurd hm (Nat.not_lt_zero _)⟩
    · rw [if_neg hy] at e
      cases q : findD r d with
      | none => rw [q] at e; cases e
      | some j =>
        rw [q] at e
        cases e
        obtain ⟨⟨z, h1, h2⟩, h3⟩ := find_at q
        refine ⟨⟨z, by simpa using h1, h2⟩, fun m z' hm hz => ?_⟩
        cases m with
        | zero => simp at hz; subst hz; simpa using hy
        | succ m => exact h3 m z' (Nat.lt_of_succ_lt_succ hm) (by simpa using hz)
theorem strs_get : ∀ {ds : List D} {ys : List Str}, strsOf ds = some ys → ds = ys.map PyData.str
  | [], ys, e => by cases e; rfl
  | d :: r, ys, e => by
    cases d with
    | str s =>
      cases q : strsOf r with
      | none => simp [strsOf, q] at e
      | some zs =>
        simp [strsOf, q] at e
        subst e
        rw [strs_get q]; rfl
    | _ => cases e
theorem mt_index' {x : V} {xs : List V} {d : D} {ds : List D} (sk : Same k H) (hx : Dp K k x d) (hs : DpAll K k xs ds) (fin : Fin K k H (mthD .index d ds) Q) :
    tyV K "list" x H ∧ rIndex K x xs H Q := by
  match d, ds, hx, hs, fin with
  | .list zs, [.str b], hx, hs, fin =>
    obtain ⟨y, rfl, h⟩ := one_dp hs
    rw [dp_str h]
    obtain ⟨hc, f0⟩ := Fin.ite fin
    obtain ⟨n, e, f⟩ := Fin.opt f0
    clear f0
    obtain ⟨ys, es⟩ := Option.isSome_iff_exists.mp hc
    cases hx with
    | lst h1 h2 =>
      have ev := strs_all h2 es
      subst ev
      have ed := strs_get es
      subst ed
      obtain ⟨⟨z, g1, g2⟩, g3⟩ := find_at e
      have flat : (ys.map V.str).all flatV = true := by
        rw [List.all_eq_true]; intro v hv
        obtain ⟨w, _, rfl⟩ := List.mem_map.mp hv
        rfl
      rw [List.getElem?_map] at g1
      cases q : ys[n]? with
      | none => rw [q] at g1; cases g1
      | some w =>
        rw [q] at g1
        cases g1
        refine ⟨?_, _, _, _, n, .str w, rfl, rfl, sk.seq h1, rfl, flat, by rw [List.getElem?_map, q]; rfl, g2, fun m z' hm hz => ?_, f.int sk⟩
        · exact .inl ⟨rfl, _, sk.seq h1⟩
        · rw [List.getElem?_map] at hz
          cases q2 : ys[m]? with
          | none => rw [q2] at hz; cases hz
          | some w2 =>
            rw [q2] at hz
            cases hz
            exact g3 m (.str w2) hm (by rw [List.getElem?_map, q2]; rfl)
end
end Fo

set_option Elab.async false
set_option linter.all false
set_option maxRecDepth 100000
set_option maxHeartbeats 4000000
/-! SemL0: a lambda handed to a def that calls it under a try; the exception's context is known to be None (the rule's steps follow those of HandS.Lambda, with the exceptions of HandS.ExcCtx). -/
namespace Fo
open PySem PySem.Spec PyProof.Rows L2 LamX
section
variable {X : Cx} {pins : List (Addr × Obj)} {σ : L2.St} {H HZ : Hp} {s s1 : Shared}
/-- the lambda is made; nothing that is known goes away -/
theorem lam_make3 {T : List (Addr × Str)} {c P : Addr} {params : Arguments} {body : Expr} {scope : Scope} {pos : Pos} {E : Value → Shared → Prop} {Q : Value → Shared → Prop} (I : Inv X pins σ H s) (TB : TabB X.base X.mg c P) (hcode : X.env.code = .ref c)
    (hm : (P, X.env.qual ++ "<lambda>") ∈ T) (hu : ∀ p ∈ T, p.1 = P → p.2 = X.env.qual ++ "<lambda>") (hT : Tabs T H) (hdef : defaultsOf params X.env = ([], [])) (hfree : ∀ y ∈ scope.names, y.2 = .free → ∃ c, X.env.cells.lookup y.1 = some c)
    (h : ∀ (f c' : Addr) (pm ctv : Value) (H1 : Hp) (s' : Shared), Inv X pins σ H1 s' → ExtN H H1 → (∀ b, H b ≠ none → H1 b ≠ none) → Tabs T H1 →
      s'.heap.get? f = some (PySem.W.kla_obj "<lambda>" (X.env.qual ++ "<lambda>") params body scope (cloFrom X.env.cells scope.names []) pm c' ctv) → H1 f = none → f ∉ frs X.stack → H1 c' = some (CodeO c' (X.env.qual ++ "<lambda>")) → Q (.ref f) s') :
    wpAny (model X.prog X.w) X.A (eval (.Lambda params body scope pos) X.env) Q E s := by
  obtain ⟨ps, hP, ht, ha⟩ := hT _ hm
  refine PySem.W.kla_eval hdef ?_
  have bP : s.heap.BuiltinsAt X.mg P := TB.bm.keeps I.bk
  have hP' : s.heap.get? P = some { cls := .none, data := .fields ps } := I.hok P _ hP
  have nofr : ∀ f, s.heap.objs.size ≤ f → f ∉ frs X.stack := fun f hf z => by
    rcases List.mem_cons.mp (I.stkSub _ z) with e | e
    · have h1 := I.lt
      rw [← e] at h1
      exact Nat.lt_irrefl _ (Nat.lt_of_lt_of_le h1 hf)
    · exact I.nofs hf e
  cases hc : codeAmong pos ps.toList with
  | none =>
    refine PySem.W.kla_makeFunction (mg := X.mg) (c := c) (P := P) (ps := ps) (closure_ok hfree) I.ok.glob (I.mod.glob.keeps I.bk) hcode (TB.code.keeps I.bk) hP' ht hc TB.gP bP fun c' ctv h' tk hx hge hlt hrec htb => ?_
    obtain ⟨c2, oc, vs, t, e2, hoc, hd, hv⟩ := hrec
    cases e2
    have hsz : s.heap.objs.size ≤ h'.objs.size := Nat.le_trans hge (Nat.le_of_lt hlt)
    have nC : H c' = none := I.hok.fresh hge
    have I1 := inv_table (t' := tk) (more := #[rawInt pos.line, rawInt pos.col, .ref c']) (h' := h'.push (PySem.W.kla_obj "<lambda>" (X.env.qual ++ "<lambda>") params body scope (cloFrom X.env.cells scope.names []) ((X.mg "__name__").getD .none) c' ctv)) I hP
      (fun b o hb e => Heap.get?_push_of_some _ (hx b o hb e)) (Heap.get?_push_of_some _ htb) hge ⟨oc, vs, t, Heap.get?_push_of_some _ hoc, hd, hv⟩
    have hE : ExtN H (upd (upd H P (.tbl (ps ++ #[rawInt pos.line, rawInt pos.col, .ref c']))) c' (CodeO c' (X.env.qual ++ "<lambda>"))) := fun b o e n => by
      rw [upd_ne (ne_of_none e nC), upd_ne (fun z => n ps (Option.some.inj (e.symm.trans (by rw [z]; exact hP))))]
      exact e
    have hD : ∀ b, H b ≠ none → upd (upd H P (.tbl (ps ++ #[rawInt pos.line, rawInt pos.col, .ref c']))) c' (CodeO c' (X.env.qual ++ "<lambda>")) b ≠ none := fun b hb => by
      by_cases z : b = c'
      · subst z; rw [upd_same]; exact fun z => by cases z
      · rw [upd_ne z]
        by_cases y : b = P
        · subst y; rw [upd_same]; exact fun z => by cases z
        · rw [upd_ne y]; exact hb
    have eL : (ps ++ #[rawInt pos.line, rawInt pos.col, .ref c']).toList = ps.toList ++ [rawInt pos.line, rawInt pos.col, .ref c'] := by simp
    refine h h'.objs.size c' ((X.mg "__name__").getD .none) ctv _ _ I1 hE hD (fun p hp => ?_) (Heap.get?_push_size _ rfl) ?_ (nofr _ hsz) upd_same
    · by_cases hb : p.1 = P
      · rw [hu p hp hb, hb]
        refine ⟨_, by rw [upd_ne (ne_of_none hP nC), upd_same], by rw [eL]; exact PySem.TriplesOk_snoc _ _ _ _ ht, fun p' cv hcv => ?_⟩
        rw [eL] at hcv
        rcases among_app _ ht hcv with z | z
        · obtain ⟨c0, e1, e2⟩ := ha p' cv z
          exact ⟨c0, e1, hE _ _ e2 codeO_ne⟩
        · exact ⟨c', z, upd_same⟩
      · obtain ⟨ps', a1, a2, a3⟩ := hT p hp
        refine ⟨ps', by rw [upd_ne (ne_of_none a1 nC), upd_ne hb]; exact a1, a2, fun p' cv hcv => ?_⟩
        obtain ⟨c0, e1, e2⟩ := a3 p' cv hcv
        exact ⟨c0, e1, hE _ _ e2 codeO_ne⟩
    · have n1 : h'.objs.size ≠ c' := Nat.ne_of_gt hlt
      have n2 : h'.objs.size ≠ P := Nat.ne_of_gt (Nat.lt_of_lt_of_le (Heap.lt_size hP') hsz)
      rw [upd_ne n1, upd_ne n2]
      exact I.hok.fresh hsz
  | some cv =>
    obtain ⟨c', e, hco⟩ := ha pos cv hc
    subst e
    refine PySem.W.kla_makeFunctionHit (mg := X.mg) (c := c) (P := P) (ps := ps) (closure_ok hfree) I.ok.glob (I.mod.glob.keeps I.bk) hcode (TB.code.keeps I.bk) hP' ht hc bP fun ctv h' tk hx hsz => ?_
    have I1 : Inv X pins σ H { s with heap := h'.push (PySem.W.kla_obj "<lambda>" (X.env.qual ++ "<lambda>") params body scope (cloFrom X.env.cells scope.names []) ((X.mg "__name__").getD .none) c' ctv), toks := tk } := I.kept fun b o e => Heap.get?_push_of_some _ (hx b o e)
    exact h h'.objs.size c' ((X.mg "__name__").getD .none) ctv H _ I1 (ExtN.refl H) (fun _ z => z) hT (Heap.get?_push_size _ rfl) (I.hok.fresh hsz) (nofr _ hsz) hco
/-- the lambda's body: what leaves it lies as HandS.ExcCtx has it -/
def lamCxN (X : Cx) (A : Around) (outer : List Env) (s : Shared) (H : Hp) (E : XK) (scope : Scope) (f c' : Addr) : Cx :=
  (lamCx X A outer s H E scope f c').wish fun e s' => wpAny (model X.prog X.w) (A.deeper (lamEnv X scope s.heap.objs.size f c')) (leaving (lamEnv X scope s.heap.objs.size f c') e) (fun _ s'' => L2N.CX X.prog X.w outer H s E e s'') (fun e' s'' => L2N.CX X.prog X.w outer H s E e' s'') s'
theorem pe_actN {CXg : CXT} {Eg : XK} {Ng : List Str} {qg : Str} {sg : Scope} {g f c' : Addr} {cdg pm ctv : Value} {params : Arguments} {body : Expr} {scope : Scope} {k i : Nat} {a : Str} {pn : List (Addr × Obj)} {xe : Value → Shared → Prop} {W : WX} {E : XK} {tb : TE} {p1 p2 : Pos}
    (I : Inv X pins σ H s) (L : LamS X.env.scope scope) (hf : s.heap.get? f = some (PySem.W.kla_obj "<lambda>" (X.env.qual ++ "<lambda>") params body scope (cloFrom X.env.cells scope.names []) pm c' ctv)) (hfn : H f = none) (hfr : f ∉ frs X.stack)
    (hbind : bindArgs (PySem.W.kla_fn "<lambda>" (X.env.qual ++ "<lambda>") params body scope (cloFrom X.env.cells scope.names []) pm (.ref c') ctv) ⟨[], []⟩ = pure [])
    (tk : L2N.Takes ((cxOf CXg X.prog X.w X.K X.mg X.base Ng qg sg g cdg X.A X.stack s H Eg).tr pn xe) W) (hW : ∀ cls d σ' H', E cls d H' → W cls d σ' H') (hr : Room (k + 1) (X.A.deeper (envOfC qg sg s.heap.objs.size g cdg)))
    (hbody : ∀ (A : Around) (outer : List Env) (s : Shared) (H : Hp), Room k (A.deeper (lamEnv X scope s.heap.objs.size f c')) → PE (lamCxN X A outer s H E scope f c') body tb)
    (hN : Ng[i]? = some a) (hv : Vis sg a) (hd : (a == ("__debug__" : Str)) = false) (hcd : (a == ("__classdict__" : Str)) = false) :
    PE ((cxOf CXg X.prog X.w X.K X.mg X.base Ng qg sg g cdg X.A X.stack s H Eg).tr pn xe) (.Call (.Name a p1) [] [] p2)
      (fun σZ HZ Q => σZ[i]? = some (some (.ref f)) ∧ HZ c' = some (CodeO c' (X.env.qual ++ "<lambda>")) ∧ tb σ HZ Q) := by
  refine ⟨fun pinsZ sZ σZ HZ Q IZ h => ?_⟩
  obtain ⟨hs, hc, ht⟩ := h
  refine wpAny_Call_Name_kw (thn ((pe_var (pos := p1) (i := i) hN hv hd hcd).run pinsZ sZ σZ HZ (fun v H1 => v = .ref f ∧ H1 = HZ) IZ ⟨.ref f, hs, rfl, rfl⟩) fun u s1 ⟨v, H1, I1, r1, q1⟩ => ?_)
  obtain ⟨ev, eH⟩ := q1
  subst ev
  rw [eH] at I1
  obtain rfl : u = Value.ref f := r1
  have of1 : s1.heap.get? f = some (PySem.W.kla_obj "<lambda>" (X.env.qual ++ "<lambda>") params body scope (cloFrom X.env.cells scope.names []) pm c' ctv) := I1.base.keep f _ hf hfn hfr (fun z => nomatch (show f ∈ ([] : List Addr) from z))
  refine PySem.W.callWith_F0 ⟨_, _, _, _, of1⟩ ?_
  have un : Un (frs X.stack) [] H HZ s.heap s1.heap := I1.base
  obtain ⟨⟨oc, vs, t, hoc, hdc, hvc⟩, _, _⟩ := I1.hok c' _ hc
  have rc : codeAny (model X.prog X.w) (X.A.deeper (envOfC qg sg s.heap.objs.size g cdg)) (.call (.ref f) ⟨[], []⟩) (CR (L2N.CX X.prog X.w) (envOfC qg sg s.heap.objs.size g cdg :: X.stack) X.prog X.w HZ s1 Q E) s1 := by
    refine PySem.W.kla_callFunE hr.depth of1 rfl L.co L.gen rfl ⟨c', oc, vs, t, rfl, hoc, hdc, hvc⟩ ?_
    rw [hbind]
    refine wpAny_pure (wpAny_newFunctionEnv (fun y hy => (L.own y hy).2) (fun y hy => absurd hy (by simp)) (fun h₁ hns hsb => ⟨I1.nolimit.fresh _ hsb, ?_⟩) L.kind)
    show codeAny _ _ (.expr body (lamEnv X scope s1.heap.objs.size f c')) _ _
    have kp : ∀ b o, s1.heap.get? b = some o → h₁.get? b = some o := fun b o e => hsb.extBut b o (Nat.ne_of_lt (Heap.lt_size e)) (Heap.get?_push_of_some _ e)
    have J0 : Inv (lamCx X (X.A.deeper (envOfC qg sg s.heap.objs.size g cdg)) (envOfC qg sg s.heap.objs.size g cdg :: X.stack) s1 HZ E scope f c') [] σ HZ { s1 with heap := h₁, toks := s1.toks + ([] : List (Str × Value)).length } :=
      lam_start2 I L I1.env0 hr.hd un hns kp
    have J : Inv (lamCxN X (X.A.deeper (envOfC qg sg s.heap.objs.size g cdg)) (envOfC qg sg s.heap.objs.size g cdg :: X.stack) s1 HZ E scope f c') [] σ HZ { s1 with heap := h₁, toks := s1.toks + ([] : List (Str × Value)).length } := J0.wish _
    refine PySem.W.kla_codeExpr (wpAny_mono ((hbody _ _ s1 HZ (hr.deeper _)).run [] _ _ HZ Q J ht) (fun v s' hq => ?_) fun e s' hq => hq)
    obtain ⟨w', H', J', rv, q⟩ := hq
    exact ⟨w', H', J'.os, J'.bare, J'.base, J'.hok, rv, q⟩
  have hx : Passes (L2N.CX X.prog X.w) ((cxOf CXg X.prog X.w X.K X.mg X.base Ng qg sg g cdg X.A X.stack s H Eg).tr pn xe) E := L2N.passes_call tk hW
  refine wpAny_call (codeAny_mono rc fun r s' hq => ?_)
  cases r with
  | error e => exact hx pinsZ σZ HZ s1 e s' I1 hq
  | ok fl =>
    cases fl with
    | ret u => exact I1.after hq
    | next => exact False.elim hq
    | brk => exact False.elim hq
    | cont => exact False.elim hq
/-- what a def makes of the lambda that it calls under its try -/
def GivesN (X : Cx) (Ng : List Str) (x : Str) (sg : Scope) (g : Addr) (cdg : Value) (bg : List Stmt) (a : Str) (q : Str) (TT : (XK → Hp → VK → Prop) → Hp → VK → Prop) : Prop :=
  ∀ (f c' : Addr) (s : Shared) (H : Hp) (Q : VK) (tl : XK → Hp → VK → Prop), (∀ (E E' : XK) (H : Hp) (Q Q' : VK), (∀ cls d H, E cls d H → E' cls d H) → (∀ v H, Q v H → Q' v H) → tl E H Q → tl E' H Q') → Room 1 (X.A.deeper (envOfC x sg s.heap.objs.size g cdg)) →
    (∀ (W : WX) (pn : List (Addr × Obj)) (xe : Value → Shared → Prop) (E : XK) (p1 p2 : Pos), L2N.Takes ((cxOf C8.CX0 X.prog X.w X.K X.mg X.base Ng x sg g cdg X.A X.stack s H C8.E0).tr pn xe) W → (∀ cls d σ' H', E cls d H' → W cls d σ' H') →
      PE ((cxOf C8.CX0 X.prog X.w X.K X.mg X.base Ng x sg g cdg X.A X.stack s H C8.E0).tr pn xe) (.Call (.Name a p1) [] [] p2) (fun σZ HZ Q => σZ[0]? = some (some (.ref f)) ∧ HZ c' = some (CodeO c' q) ∧ tl E HZ Q)) →
    H c' = some (CodeO c' q) → TT tl H Q →
    ∃ t, PSs (cxOf C8.CX0 X.prog X.w X.K X.mg X.base Ng x sg g cdg X.A X.stack s H C8.E0).nox bg t ∧ t { nx := fun _ H' => Q .non H', rt := Q } (L2.start Ng [.ref f]) H
def tLamN (T : List (Addr × Str)) (TT : (XK → Hp → VK → Prop) → Hp → VK → Prop) (t : XK → TE) : TE := fun σ H Q => Tabs T H ∧ ∀ H1, ExtN H H1 → (∀ b, H b ≠ none → H1 b ≠ none) → Tabs T H1 → TT (fun E H' Q' => t E σ H' Q') H1 Q
/-- x(lambda: body) -/
theorem pe_lamcallN {T : List (Addr × Str)} {TT : (XK → Hp → VK → Prop) → Hp → VK → Prop} {x a : Str} {g c P : Addr} {k : Nat} {pg : Arguments} {bg : List Stmt} {sg : Scope} {dV kV doc pm cdv ct oc : Value} {an od : Option Addr} {osl : Array (Option Value)} {Ng : List Str}
    {params : Arguments} {body : Expr} {scope : Scope} {t : XK → TE} {p lpos pos : Pos} (hg : Gl X x) (hm : X.mg x = some (.ref g)) (hk : PySem.W.keepIn X.K (.ref g) = true)
    (lk : X.K.lookup g = some ⟨oc, od, .func (PySem.W.fnOf x x pg bg sg dV kV doc pm an cdv ct), osl⟩) (hcg : PySem.W.codeIn X.K cdv x = true) (hb : L2.Binds X.K (PySem.W.fnOf x x pg bg sg dV kV doc pm an cdv ct) [a] []) (Sg : FnScope Ng [a] sg) (hNg : Ng[0]? = some a) (hva : Vis sg a)
    (hG : GivesN X Ng x sg g cdv bg a (X.env.qual ++ "<lambda>") TT)
    (TB : TabB X.base X.mg c P) (hcode : X.env.code = .ref c) (hmT : (P, X.env.qual ++ "<lambda>") ∈ T) (hu : ∀ p ∈ T, p.1 = P → p.2 = X.env.qual ++ "<lambda>") (hr : Room (k + 2) X.A) (L : LamS X.env.scope scope) (hdef : defaultsOf params X.env = ([], []))
    (hbind : ∀ (q : Str) (cl : List (Str × Addr)) (pm cv ctv : Value), bindArgs (PySem.W.kla_fn "<lambda>" q params body scope cl pm cv ctv) ⟨[], []⟩ = pure [])
    (hbody : ∀ (A : Around) (outer : List Env) (s : Shared) (H : Hp) (E : XK) (f c' : Addr), Room k (A.deeper (lamEnv X scope s.heap.objs.size f c')) → PE (lamCxN X A outer s H E scope f c') body (t E))
    (hdb : (x == ("__debug__" : Str)) = false) (hd : (a == ("__debug__" : Str)) = false) (hcd : (a == ("__classdict__" : Str)) = false)
    (hmono : ∀ (σ : L2.St) (E E' : XK) (H : Hp) (Q Q' : VK), (∀ cls d H, E cls d H → E' cls d H) → (∀ v H, Q v H → Q' v H) → t E σ H Q → t E' σ H Q') :
    PE X (.Call (.Name x p) [.Lambda params body scope lpos] [] pos) (tLamN T TT t) := by
  refine ⟨fun pins s σ H Q I h => ?_⟩
  obtain ⟨hT, h⟩ := h
  refine wpAny_Call_Name_kw (ld_glob I hg hm ?_ hdb)
  refine PySem.W.callWith_K (h₀ := X.base) I.ok.mod.kin hk ?_ (by rfl) (by rfl)
  show wpAny _ _ (spliced ((false, eval (.Lambda params body scope lpos) X.env) :: backTo pos (starEach [] X.env))) _ _ s
  refine Calls.spliced_cons (lam_make3 I TB hcode hmT hu hT hdef (L.has I.ok) fun f c' pm' ctv H1 s' I1 eN dN T1 hf hfn hfr hco => ?_)
  refine Calls.spliced_nil ⟨I1.kIn, ?_⟩
  have rc : codeAny (model X.prog X.w) X.A (.call (.ref g) ⟨[.ref f], []⟩) (CR C8.CX0 X.stack X.prog X.w H1 s' Q C8.E0) s' := by
    refine run_ofS (N := Ng) (ps := [a]) (us := [.ref f]) (vs := [.ref f]) lk hcg Sg hr I1.env0 (hb s' [.ref f] I1.kIn rfl) (.cons rfl .nil) rfl fun hr' => ?_
    obtain ⟨t', ht', hq'⟩ := hG f c' s' H1 Q (fun E H' Q' => t E σ H' Q') (hmono σ) (hr'.mono (by omega)) (fun W pn xe E p1 p2 tk hW => pe_actN (i := 0) I1 L hf hfn hfr (hbind _ _ _ _ _) tk hW hr' (fun A outer s H hr2 => hbody A outer s H E f c' hr2) hNg hva hd hcd) hco (h H1 eN dN T1)
    exact ⟨t', ht'.nox, hq'⟩
  refine wpAny_call (codeAny_mono rc fun r s2 hq => ?_)
  cases r with
  | error e => exact (show False from hq).elim
  | ok fl =>
    cases fl with
    | ret u => exact I1.after hq
    | next => exact False.elim hq
    | brk => exact False.elim hq
    | cont => exact False.elim hq
end
end Fo

set_option Elab.async false
set_option linter.all false
set_option maxRecDepth 100000
set_option maxHeartbeats 4000000
/-! SemB3: the expressions of the evaluator against the text's. -/
namespace Fo
open PySem L2 LamX PyProof.Rows

/-! ### the text's side conditions, as checks -/
def noStar : Expr → Bool
  | .Starred .. => false
  | _ => true
theorem star_cons {e : Expr} (h : noStar e = true) (es : List Expr) (env : Env) : starEach (e :: es) env = (false, eval e env) :: starEach es env := by
  cases e <;> first | rfl | cases h
theorem plain_all {env : Env} (pos : Pos) : ∀ {es : List Expr}, es.all noStar = true → (backTo pos (starEach es env)).any (·.1) = false
  | [], _ => rfl
  | e :: es, h => by
    rw [List.all_cons, Bool.and_eq_true] at h
    rw [star_cons h.1]
    show (false || (backTo pos (starEach es env)).any (·.1)) = false
    rw [plain_all pos h.2]; rfl
def noSet : Expr → Bool
  | .Set .. => false
  | _ => true
theorem marks_of {op : CmpOp} {b : Expr} (h : noSet b = true) : behindInMarks op b = false := by
  cases b <;> first | rfl | cases h
theorem lastMarks_of {op op' : CmpOp} {m b : Expr} (h : noSet b = true) : lastMarks [op, op'] [m, b] = false := marks_of (op := op') h
theorem folded_of {e : Expr} (h : noSet e = true) (env : Env) : ∀ x, foldedSetIterable e env x = pure x := by
  intro x
  cases e <;> first | rfl | cases h
def plainIx : Expr → Bool
  | .Slice .. => false
  | _ => true
theorem plainIx_of {b : Expr} (h : plainIx b = true) : PlainIx b := by
  intro o i
  cases b <;> first | rfl | cases h
def plainT : Expr → Bool
  | .UnaryOp .Not _ _ => false
  | .BoolOp .. => false
  | .IfExp .. => false
  | .Compare .. => false
  | _ => true
theorem plainT_of {a : Expr} {env : Env} (h : plainT a = true) : ∀ whole, isTrue a env whole = (do let v ← whole; standAt a.pos; holding [v] (truthy v)) := by
  intro whole
  cases a with
  | UnaryOp o b p => cases o <;> first | rfl | cases h
  | _ => first | rfl | cases h
def noSuper : Expr → Bool
  | .Call (.Name _ _) [] [] _ => false
  | _ => true
theorem base_of {o : Expr} {attr : Str} {env : Env} (h : noSuper o = true) : attributeBase o attr env (eval o env) = eval o env := by
  cases o with
  | Call f as ks p =>
    cases f with
    | Name x q => cases as with
      | nil => cases ks with
        | nil => cases h
        | cons k r => rfl
      | cons a r => rfl
    | _ => rfl
  | _ => rfl
def visB (sc : Scope) (x : Str) : Bool := match sc.names.lookup x with
  | some .local => true
  | some .cell => true
  | some .free => true
  | _ => false
def ckV (N : List Str) (sc : Scope) (i : Nat) (x : Str) : Bool := decide (N[i]? = some x) && visB sc x && !(x == ("__debug__" : Str)) && !(x == ("__classdict__" : Str))
def ckG (sc : Scope) (x y : Str) : Bool := decide (x = y) && decide (sc.names.lookup x = some .globalImplicit) && !(x == ("__debug__" : Str)) && decide (x ≠ "__name__")
theorem vis_of {sc : Scope} {x : Str} (h : visB sc x = true) : Vis sc x := by
  unfold visB at h
  split at h <;> first | exact .inl (by assumption) | exact .inr (.inl (by assumption)) | exact .inr (.inr (by assumption)) | cases h
theorem ckV_of {N : List Str} {sc : Scope} {i : Nat} {x : Str} (h : ckV N sc i x = true) : N[i]? = some x ∧ Vis sc x ∧ (x == ("__debug__" : Str)) = false ∧ (x == ("__classdict__" : Str)) = false := by
  unfold ckV at h
  simp only [Bool.and_eq_true, decide_eq_true_eq, Bool.not_eq_true'] at h
  exact ⟨h.1.1.1, vis_of h.1.1.2, h.1.2, h.2⟩
theorem ckG_of {sc : Scope} {x y : Str} (h : ckG sc x y = true) : x = y ∧ sc.names.lookup x = some .globalImplicit ∧ (x == ("__debug__" : Str)) = false ∧ x ≠ "__name__" := by
  unfold ckG at h
  simp only [Bool.and_eq_true, decide_eq_true_eq, Bool.not_eq_true'] at h
  exact ⟨h.1.1.1, h.1.1.2, h.1.2, h.2⟩

/-! ### what a def of the table promises -/
def argS (F : Df) (ds : List D) : Rho :=
  match F.io, ds with
  | true, d :: r => .own d :: r.map .val
  | _, ds => ds.map .val
def ioS (F : Df) (i : Nat) : Bool := F.io && i == 0
def backS (F : Df) (ds zs : List D) : Rho :=
  match F.io, ds with
  | true, _ :: r => .own (.list zs) :: r.map .val
  | _, ds => ds.map .val
def Back (K : PySem.W.Frag) (F : Df) (H : Hp) (v : V) (d : D) (k1 H1 : Hp) : Prop :=
  if F.own = true then ∃ p, v = .ref p ∧ H p = none ∧ k1 p = none ∧ OwnRep K k1 H1 p d else Dp K k1 v d
def spD (K : PySem.W.Frag) (T : Tbs) (P : Prog) (ca : Nat → Addr) (n f : Nat) (F : Df) : Sp := fun vs H Q E => ∃ k ds, WF K T (vs.map some) (argS F ds) k H ∧ vs.length = F.np ∧ ds.length = F.np ∧
  match callF P n f ds with
  | .ok (d, zs) => ∀ v k1 H1, Tr T (ioS F) (vs.map some) (argS F ds) k H (backS F ds zs) k1 H1 → WF K T (vs.map some) (backS F ds zs) k1 H1 → Back K F H v d k1 H1 → Q v H1
  | .exc c => ∀ H1, TrX T (ioS F) (vs.map some) (argS F ds) H H1 → E (.ref (ca c)) none H1
  | .bad => False

/-- the names of the text's table -/
structure Tx where
  fn : Nat → Option Str
  io : Nat → Bool
  own : Nat → Bool
  gl : Nat → Option Str
  xn : Nat → Option Str
  ln : Nat → Option Str
  lamb : Bool
def wx (ca : Nat → Addr) (W : XW) : WX := fun cls d σ H => ∃ c, cls = .ref (ca c) ∧ d = none ∧ W c σ H
def btNames : List Str := ["len", "abs", "int", "str", "list", "tuple", "all", "any", "bool", "min", "set", "sorted", "range", "enumerate", "zip", "isinstance"]
/-- what stands of the text, whatever the frame -/
structure TxOk (P : Program) (w : World) (K : PySem.W.Frag) (mg : Str → Option Value) (base : Heap) (t : Tx) (Q : Prog) (Tb : Tbs) (ca : Nat → Addr) (n : Nat) : Prop where
  bt : ∀ x ∈ btNames, mg x = none
  fn : ∀ f y F, t.fn f = some y → Q.defs f = some F → ∃ ad fd ps, mg y = some (.ref ad) ∧ PySem.W.keepIn K (.ref ad) = true ∧ Binds K fd ps [] ∧ FnOk P w K mg base (L2N.CX P w) n ad fd ps (spD K Tb Q ca n f F) ∧ F.io = t.io f ∧ F.own = t.own f
  xn : ∀ c y, t.xn c = some y → mg y = some (.ref (ca c)) ∧ PySem.W.keepIn K (.ref (ca c)) = true ∧ (∃ B nI iI bm, ExcBaseFacts B nI iI bm ∧ PySem.W.excIn K (ca c) bm nI = true) ∧
    PySem.W.subIn K (.ref (ca c)) (.type "BaseException") = some true ∧ PySem.W.typeIn K (.ref (ca c)) = some (.type "type")
  gl : ∀ k y d, t.gl k = some y → Q.glb k = some d → ∃ v u, mg y = some u ∧ RelV v u ∧ ∀ H, Dp K H v d
theorem TxOk.ofT {P : Program} {w : World} {K : PySem.W.Frag} {mg : Str → Option Value} {base : Heap} {t : Tx} {Q : Prog} {Tb : Tbs} {ca : Nat → Addr} {n : Nat} {l : Bool} (h : TxOk P w K mg base t Q Tb ca n) : TxOk P w K mg base { t with lamb := l } Q Tb ca n := ⟨h.bt, h.fn, h.xn, h.gl⟩
/-- all but the tables is kept -/
def Keep (Tb : Tbs) (H H1 : Hp) : Prop := (∀ b o, H b = some o → (∀ ps, o ≠ .tbl ps) → H1 b = some o) ∧ (∀ b, H b ≠ none → H1 b ≠ none) ∧ Tabs Tb H1
/-- what the def f makes of a lambda's run -/
def TTof (K : PySem.W.Frag) (T : Tbs) (ca : Nat → Addr) (g : R D → Option D) : (XK → Hp → VK → Prop) → Hp → VK → Prop := fun tl H Q =>
  tl (fun cls d H' => ∃ c k, cls = .ref (ca c) ∧ d = none ∧ Same k H' ∧ Tabs T H' ∧ (∀ b ps, k b ≠ some (.tbl ps)) ∧ ∀ H2, Keep T H' H2 → Fin K k H2 (g (.exc c)) Q) H fun v H' => ∃ k d, Same k H' ∧ Tabs T H' ∧ Dp K k v d ∧ Fin K k H' (g (.ok d)) Q
structure LamDef (P : Program) (w : World) (K : PySem.W.Frag) (mg : Str → Option Value) (base : Heap) (T : Tbs) (ca : Nat → Addr) (y : Str) (g : R D → Option D) (ga : Addr) (a : Str) (Ng : List Str) (pg : Arguments) (bg : List Stmt) (sg : Scope) : Prop where
  gm : mg y = some (.ref ga)
  kp : PySem.W.keepIn K (.ref ga) = true
  ex : ∃ (dV kV doc pm cdv ct oc : Value) (an od : Option Addr) (osl : Array (Option Value)), K.lookup ga = some ⟨oc, od, .func (PySem.W.fnOf y y pg bg sg dV kV doc pm an cdv ct), osl⟩ ∧ PySem.W.codeIn K cdv y = true ∧
    L2.Binds K (PySem.W.fnOf y y pg bg sg dV kV doc pm an cdv ct) [a] [] ∧
    ∀ (X : Cx) (q : Str), X.prog = P → X.w = w → X.K = K → X.mg = mg → X.base = base → GivesN X Ng y sg ga cdv bg a q (TTof K T ca g)
  S : FnScope Ng [a] sg
  N0 : Ng[0]? = some a
  vis : Vis sg a
  dbg : (a == ("__debug__" : Str)) = false
  cls : (a == ("__classdict__" : Str)) = false
structure LamF (t : Tx) (Q : Prog) (Tb : Tbs) (ca : Nat → Addr) (X : Cx) : Prop where
  fr : ∃ c P, TabB X.base X.mg c P ∧ X.env.code = .ref c ∧ (P, X.env.qual ++ "<lambda>") ∈ Tb ∧ ∀ p ∈ Tb, p.1 = P → p.2 = X.env.qual ++ "<lambda>"
  ln : ∀ f y, t.ln f = some y → ∃ ga a Ng pg bg sg, LamDef X.prog X.w X.K X.mg X.base Tb ca y (Q.lam f) ga a Ng pg bg sg
structure Good (t : Tx) (Q : Prog) (Tb : Tbs) (ca : Nat → Addr) (n : Nat) (N : List Str) (X : Cx) (W : XW) : Prop where
  names : X.N = N
  nd : X.N.Nodup
  calm : X.calm = true
  room : Room n X.A
  tk : L2N.Takes X (wx ca W)
  oks : ∀ m, m ≤ n → TxOk X.prog X.w X.K X.mg X.base t Q Tb ca m
  lam : t.lamb = true → LamF t Q Tb ca X
theorem Good.ok {t : Tx} {Q : Prog} {Tb : Tbs} {ca : Nat → Addr} {n : Nat} {N : List Str} {X : Cx} {W : XW} (G : Good t Q Tb ca n N X W) : TxOk X.prog X.w X.K X.mg X.base t Q Tb ca n := G.oks n (Nat.le_refl n)

section
variable {X : Cx} {Tb : Tbs} {W : XW} {ca : Nat → Addr} {m ma mb mc : Nat → Bool} {fa fb fc : Rho → R (D × Rho)} {a b c : Expr} {pos : Pos}
theorem fin_of {r : Option D} {ρ : Rho} {σ : L2.St} {k H : Hp} {Q : VK} (w : WF X.K Tb σ ρ k H) (h : pG X.K Tb W m σ ρ k H ((ofOpt r).bind fun z => .ok (z, ρ)) fun d _ k1 H1 => ∀ v, Dp X.K k1 v d → Q v H1) : Fin X.K k H r Q := by
  cases r with
  | none => exact h
  | some z => exact fun v k1 H1 px d => h k1 H1 px.tr (w.px px) v d

theorem s_var {i : Nat} {x : Str} (hN : X.N[i]? = some x) (hv : Vis X.env.scope x) (hd : (x == ("__debug__" : Str)) = false) (hc : (x == ("__classdict__" : Str)) = false) (C : Ctx) :
    PE X (.Name x pos) (tE X.K Tb W (fun j => occ j (.var i)) (evE C (.var i))) := by
  refine (pe_var hN hv hd hc).weaken fun σ H Q ⟨ρ, k, w, h⟩ => ?_
  unfold evE at h
  cases e : ρ[i]? with
  | none => rw [e] at h; exact h.elim
  | some s =>
    rw [e] at h
    cases s with
    | no => exact h.elim
    | val d =>
      obtain ⟨v, h1, h2⟩ := w.val i d e
      exact ⟨v, h1, pG_ok h w v h2⟩
    | own d =>
      cases d with
      | list xs =>
        obtain ⟨p, h1, h2, h3⟩ := w.own i _ e
        obtain ⟨vs, h4, h5⟩ := id h3
        refine ⟨_, h1, ?_⟩
        have hi : i < ρ.length := (List.getElem?_eq_some_iff.mp e).1
        have hpk : Same k (upd k p (.lst vs)) := upd_some h2
        have ow : Own σ ρ i p := ⟨⟨_, e⟩, h1⟩
        refine h (upd k p (.lst vs)) H ⟨hpk, fun q hq => ?_, fun q o hq _ => .inl hq, fun q hq => hq, fun j hj => ?_, fun j q o => ?_, fun z => z⟩ ⟨fun q o hq => ?_, fun q ps hq => ?_, w.tab, by rw [List.length_set]; exact w.len, fun j d hj => ?_, fun j d hj => ?_, fun j j' q o1 o2 => ?_⟩ _ (.lst (.of upd_same) (dps_mono hpk h5))
        · by_cases z : q = p
          · subst z; exact .inr (.inr ⟨i, by simp [occ], ow⟩)
          · rw [upd_ne z] at hq; exact .inl hq
        · have ne : i ≠ j := fun z => by subst z; simp [occ] at hj
          rw [List.getElem?_set_ne ne]
        · by_cases z : i = j
          · subst z
            obtain ⟨⟨d, e1⟩, e2⟩ := o
            rw [List.getElem?_set_self hi] at e1; cases e1
          · obtain ⟨⟨d, e1⟩, e2⟩ := o
            rw [List.getElem?_set_ne z] at e1
            exact ⟨⟨d, e1⟩, e2⟩
        · by_cases z : q = p
          · subst z; rw [upd_same] at hq; cases hq; exact h4
          · rw [upd_ne z] at hq; exact w.sub q o hq
        · by_cases z : q = p
          · subst z; rw [upd_same] at hq; cases hq
          · rw [upd_ne z] at hq; exact w.ntb q ps hq
        · by_cases z : i = j
          · subst z
            rw [List.getElem?_set_self hi] at hj; cases hj
            exact ⟨_, h1, .lst (.of upd_same) (dps_mono hpk h5)⟩
          · rw [List.getElem?_set_ne z] at hj
            obtain ⟨v, g1, g2⟩ := w.val j d hj
            exact ⟨v, g1, dp_mono hpk g2⟩
        · by_cases z : i = j
          · subst z
            rw [List.getElem?_set_self hi] at hj; cases hj
          · rw [List.getElem?_set_ne z] at hj
            obtain ⟨q, g1, g2, g3⟩ := w.own j d hj
            have nq : q ≠ p := fun y => by subst y; exact z (w.dis i j q ow ⟨⟨d, hj⟩, g1⟩)
            exact ⟨q, g1, by rw [upd_ne nq]; exact g2, g3.mono hpk fun o ho _ => ho⟩
        · have lift : ∀ {j q}, Own σ (ρ.set i (.val (.list xs))) j q → Own σ ρ j q := fun {j q} o => by
            by_cases z : i = j
            · subst z
              obtain ⟨⟨d, e1⟩, e2⟩ := o
              rw [List.getElem?_set_self hi] at e1; cases e1
            · obtain ⟨⟨d, e1⟩, e2⟩ := o
              rw [List.getElem?_set_ne z] at e1
              exact ⟨⟨d, e1⟩, e2⟩
          exact w.dis j j' q (lift o1) (lift o2)
      | _ => exact h.elim

def cstOk : D → Const → Bool
  | .none, .none => true
  | .bool b, .bool c => b == c
  | .int i, .int j => decide (i = j)
  | .str x, .str y => decide (x = y)
  | _, _ => false
theorem s_cst {d : D} {cc : Const} {j : Nat} (h : cstOk d cc = true) (C : Ctx) : PE X (.Constant cc j pos) (tE X.K Tb W m (evE C (.cst d))) := by
  cases d with
  | none => cases cc <;> first | (exact pe_non.weaken fun σ H Q ⟨ρ, k, w, h⟩ => pG_ok h w _ .non) | cases h
  | bool b =>
    cases cc with
    | bool c =>
      have e : b = c := by simpa [cstOk] using h
      subst e
      exact pe_bl.weaken fun σ H Q ⟨ρ, k, w, h⟩ => pG_ok h w _ (.bl b)
    | _ => cases h
  | int i =>
    cases cc with
    | int c =>
      have e : i = c := by simpa [cstOk] using h
      subst e
      exact pe_int.weaken fun σ H Q ⟨ρ, k, w, h⟩ => pG_ok h w _ (.int i)
    | _ => cases h
  | str i =>
    cases cc with
    | str c =>
      have e : i = c := by simpa [cstOk] using h
      subst e
      exact pe_str.weaken fun σ H Q ⟨ρ, k, w, h⟩ => pG_ok h w _ (.str i)
    | _ => cases h
  | _ => cases h

theorem s_bin (o : BOp) (ha : PE X a (tE X.K Tb W ma fa)) (hb : PE X b (tE X.K Tb W mb fb)) (hma : ∀ i, ma i = true → m i = true) (hmb : ∀ i, mb i = true → m i = true) :
    PE X (.BinOp a (opB o) b pos) (tE X.K Tb W m fun ρ => (fa ρ).bind fun (x, ρ1) => (fb ρ1).bind fun (y, ρ2) => (ofOpt (binD o x y)).bind fun z => .ok (z, ρ2)) := by
  refine (pe_op (bin_ok o) ha hb).weaken fun σ H Q ⟨ρ, k, w, h⟩ => ?_
  refine ⟨ρ, k, w, pG_mono (pG_bind h) hma fun d ρ1 k1 H1 t1 w1 h1 v hv => ?_⟩
  refine ⟨ρ1, k1, w1, pG_mono (pG_bind h1) hmb fun e ρ2 k2 H2 t2 w2 h2 u hu => ?_⟩
  exact ⟨k2, d, e, w2.sub, dp_mono t2.kk hv, hu, fin_of w2 h2⟩

theorem hu65 {n : Nat} {A : Around} (hr : Room n A) : A.units + 65 < cLine := by have := hr.un; omega
/-- an own list that is looked at, or a value -/
def tEO (K : PySem.W.Frag) (T : Tbs) (W : XW) (ms : Nat → Bool) (nb : Nat → Bool) (f : Rho → R (D × Rho)) : TE := fun σ H Q => ∃ ρ k, WF K T σ ρ k H ∧ pG K T W ms σ ρ k H (f ρ) fun d ρ1 k1 H1 =>
  (∀ v, Dp K k1 v d → Q v H1) ∧ ∀ i a xs, nb i = false → Own σ ρ1 i a → ρ1[i]? = some (.own (.list xs)) → d = .list xs → Q (.ref a) H1
theorem s_peekB {xa xb : Ex} {sc : Scope} (C : Ctx) (ha : PE X a (tE X.K Tb W (fun i => occ i xa) (evE C xa))) (hvar : ∀ i, xa = .var i → ∃ x p, a = .Name x p ∧ X.N[i]? = some x ∧ Vis X.env.scope x ∧ (x == ("__debug__" : Str)) = false ∧ (x == ("__classdict__" : Str)) = false) :
    PE X a (fun σ H Q => ∃ ρ k, WF X.K Tb σ ρ k H ∧ pG X.K Tb W (fun i => occ i xa) σ ρ k H (peekB xa xb (evE C xa) ρ) fun d ρ1 k1 H1 =>
      ∀ v, (Dp X.K k1 v d ∨ ∃ i p xs, occ i xb = false ∧ ρ1[i]? = some (.own (.list xs)) ∧ σ[i]? = some (some (.ref p)) ∧ v = .ref p ∧ d = .list xs) → Q v H1) := by
  refine ⟨fun pins s σ H Q I ⟨ρ, k, w, h⟩ => ?_⟩
  by_cases hx : ∃ i xs, xa = .var i ∧ ρ[i]? = some (.own (.list xs))
  · obtain ⟨i, xs, rfl, e⟩ := hx
    obtain ⟨x, p, rfl, h1, h2, h3, h4⟩ := hvar i rfl
    unfold peekB at h
    simp only [e] at h
    by_cases ho : occ i xb = true
    · rw [if_pos ho] at h; exact h.elim
    · rw [if_neg ho] at h
      obtain ⟨q, g1, g2, g3⟩ := w.own i _ e
      refine (pe_var h1 h2 h3 h4).run pins s σ H Q I ⟨_, g1, pG_ok h w _ (.inr ⟨i, q, xs, by simpa using ho, e, g1, rfl, rfl⟩)⟩
  · have e : peekB xa xb (evE C xa) ρ = evE C xa ρ := by
      unfold peekB
      cases xa with
      | var i =>
        simp only
        split
        · rename_i xs z
          exact absurd ⟨i, xs, rfl, z⟩ hx
        · rfl
      | _ => rfl
    rw [e] at h
    exact ha.run pins s σ H Q I ⟨ρ, k, w, pG_mono h (fun _ z => z) fun d ρ1 k1 H1 _ _ q v hv => q v (.inl hv)⟩
/-- behind the other part: what was looked at stands -/
theorem keep_own {σ : L2.St} {ρ1 ρ2 : Rho} {k1 k2 H1 H2 : Hp} {v : V} {d : D} {nb : Nat → Bool} (w1 : WF X.K Tb σ ρ1 k1 H1) (t : Tr Tb nb σ ρ1 k1 H1 ρ2 k2 H2) (w2 : WF X.K Tb σ ρ2 k2 H2)
    (h : Dp X.K k1 v d ∨ ∃ i p xs, nb i = false ∧ ρ1[i]? = some (.own (.list xs)) ∧ σ[i]? = some (some (.ref p)) ∧ v = .ref p ∧ d = .list xs) : DpO X.K k2 H2 v d := by
  rcases h with h | ⟨i, p, xs, h1, h2, h3, rfl, rfl⟩
  · exact .inl (dp_mono t.kk h)
  · have e := (t.slt i h1).trans h2
    obtain ⟨q, g1, g2, vs, g3, g4⟩ := w2.own i _ e
    rw [h3] at g1
    cases g1
    exact .inr ⟨p, xs, vs, rfl, rfl, g3, g4⟩

theorem i_cmp {xa xb : Ex} {n : Nat} (C : Ctx) (o : COp) (σ : L2.St) (H : Hp) (Q : VK) (h : tE X.K Tb W (fun i => occ i (.cmp o xa xb)) (evE C (.cmp o xa xb)) σ H Q) :
    tOp (rBO X.K (cmpD o)) (fun σ H Q => ∃ ρ k, WF X.K Tb σ ρ k H ∧ pG X.K Tb W (fun i => occ i xa) σ ρ k H (peekB xa xb (evE C xa) ρ) fun d ρ1 k1 H1 =>
      ∀ v, (Dp X.K k1 v d ∨ ∃ i p xs, occ i xb = false ∧ ρ1[i]? = some (.own (.list xs)) ∧ σ[i]? = some (some (.ref p)) ∧ v = .ref p ∧ d = .list xs) → Q v H1) (tE X.K Tb W (fun i => occ i xb) (evE C xb)) σ H Q := by
  obtain ⟨ρ, k, w, h⟩ := h
  unfold evE at h
  refine ⟨ρ, k, w, pG_mono (pG_bind h) (fun i z => by simp [occ, z]) fun d ρ1 k1 H1 t1 w1 h1 v hv => ?_⟩
  refine ⟨ρ1, k1, w1, pG_mono (pG_bind h1) (fun i z => by simp [occ, z]) fun e ρ2 k2 H2 t2 w2 h2 u hu => ?_⟩
  exact ⟨k2, d, e, w2.sub, keep_own w1 t2 w2 hv, hu, fin_of w2 h2⟩
abbrev VarOk (X : Cx) (xa : Ex) (a : Expr) : Prop := ∀ i, xa = .var i → ∃ x p, a = .Name x p ∧ X.N[i]? = some x ∧ Vis X.env.scope x ∧ (x == ("__debug__" : Str)) = false ∧ (x == ("__classdict__" : Str)) = false
theorem s_cmp {xa xb : Ex} {n : Nat} (C : Ctx) (hr : Room n X.A) (o : COp) (ha : PE X a (tE X.K Tb W (fun i => occ i xa) (evE C xa))) (hvar : VarOk X xa a)
    (hb : PE X b (tE X.K Tb W (fun i => occ i xb) (evE C xb))) (hs : noSet b = true) : PE X (.Compare a [opC o] [b] pos) (tE X.K Tb W (fun i => occ i (.cmp o xa xb)) (evE C (.cmp o xa xb))) :=
  (pe_cmpR (cmp_ok (hu65 hr) o) (s_peekB (sc := X.env.scope) (xb := xb) C ha hvar) hb (marks_of hs)).weaken (i_cmp (n := n) C o)
theorem tt_of {x : V} {t : Bool} {k : Hp} {K : PySem.W.Frag} (h : Dp K k x (.bool t)) : x = .bl t := by cases h; rfl
/-- a comparison as a test: its value is a bool -/
theorem cmp_test {op : CmpOp} {r : R2} {ta tb : TE} {f : Rho → R (D × Rho)} (ho : OpR X (compareOp op) r) (ha : PE X a ta) (hb : PE X b tb) (hs : noSet b = true)
    (h : ∀ σ H Q, tE X.K Tb W m f σ H Q → tOp r ta tb σ H Q) : PT X (.Compare a [op] [b] pos) (tT X.K Tb W m f) := by
  refine (pt_cmpR ho ha hb (marks_of hs)).weaken fun σ H Q ⟨ρ, k, w, q⟩ => ?_
  refine h σ H _ ⟨ρ, k, w, ?_⟩
  cases e : f ρ with
  | bad => rw [e] at q; exact q
  | exc c => rw [e] at q; exact q
  | ok p =>
    obtain ⟨d, ρ1⟩ := p
    rw [e] at q
    cases d with
    | bool t =>
      intro k1 H1 t1 w1 v hv
      exact ⟨t, tt_of hv, q k1 H1 t1 w1⟩
    | _ => exact q.elim
theorem t_cmp {xa xb : Ex} {n : Nat} (C : Ctx) (hr : Room n X.A) (o : COp) (ha : PE X a (tE X.K Tb W (fun i => occ i xa) (evE C xa))) (hvar : VarOk X xa a)
    (hb : PE X b (tE X.K Tb W (fun i => occ i xb) (evE C xb))) (hs : noSet b = true) : PT X (.Compare a [opC o] [b] pos) (tT X.K Tb W (fun i => occ i (.cmp o xa xb)) (evE C (.cmp o xa xb))) :=
  cmp_test (cmp_ok (hu65 hr) o) (s_peekB (sc := X.env.scope) (xb := xb) C ha hvar) hb hs (i_cmp (n := n) C o)

theorem pG_step {α : Type} {σ : L2.St} {ρ ρ1 : Rho} {k k1 H H1 : Hp} {r : R (α × Rho)} {G : α → Rho → Hp → Hp → Prop} (h : pG X.K Tb W m σ ρ k H r G) (t : Tr Tb m σ ρ k H ρ1 k1 H1) : pG X.K Tb W m σ ρ1 k1 H1 r G := by
  cases r with
  | bad => exact h
  | exc c => exact fun H2 u => h H2 (u.after t)
  | ok p => exact fun k2 H2 u w => h k2 H2 (t.trans u) w

/-! ### a chain of two comparisons -/
theorem i_chain {σ : L2.St} {H : Hp} {Q : VK} {o p : COp} (hma : ∀ i, ma i = true → m i = true) (hmb : ∀ i, mb i = true → m i = true) (hmc : ∀ i, mc i = true → m i = true)
    (h : tE X.K Tb W m (fun ρ => (fa ρ).bind fun (x, ρ1) => (fb ρ1).bind fun (y, ρ2) => (ofOpt (cmpD o x y)).bind fun z => (boolR (z, ρ2)).bind fun (t, ρ2) =>
      if t = true then (fc ρ2).bind fun (w, ρ3) => (ofOpt (cmpD p y w)).bind fun z => .ok (z, ρ3) else .ok (.bool false, ρ2)) σ H Q) :
    tChain (rBO X.K (cmpD o)) (rBO X.K (cmpD p)) (tE X.K Tb W ma fa) (tE X.K Tb W mb fb) (tE X.K Tb W mc fc) σ H Q := by
  obtain ⟨ρ, k, w, h⟩ := h
  refine ⟨ρ, k, w, pG_mono (pG_bind h) hma fun d ρ1 k1 H1 t1 w1 h1 v hv => ?_⟩
  refine ⟨ρ1, k1, w1, pG_mono (pG_bind h1) hmb fun e ρ2 k2 H2 t2 w2 h2 u hu => ?_⟩
  refine ⟨k2, d, e, w2.sub, .inl (dp_mono t2.kk hv), hu, ?_⟩
  dsimp only at h2
  cases q : cmpD o d e with
  | none => rw [q] at h2; exact h2
  | some z =>
    rw [q] at h2
    intro v3 k3 H3 px hv3
    cases z with
    | bool t =>
      refine ⟨t, tt_of hv3, ?_⟩
      have h3 : pG X.K Tb W m σ ρ2 k3 H3 (if t = true then (fc ρ2).bind fun (w, ρ3) => (ofOpt (cmpD p e w)).bind fun z => .ok (z, ρ3) else .ok (.bool false, ρ2)) fun d _ k1 H1 => ∀ v, Dp X.K k1 v d → Q v H1 := pG_step h2 px.tr
      have w3 := w2.px px
      by_cases ht : t = true
      · rw [if_pos ht] at h3 ⊢
        refine ⟨ρ2, k3, w3, pG_mono (pG_bind h3) hmc fun e4 ρ4 k4 H4 t4 w4 h4 u4 hu4 => ?_⟩
        exact ⟨k4, e, e4, w4.sub, .inl (dp_mono (px.kk.trans t4.kk) hu), hu4, fin_of w4 h4⟩
      · rw [if_neg ht] at h3 ⊢
        exact pG_ok h3 w3 _ (.bl false)
    | _ => exact h2.elim
theorem s_chain {n : Nat} (hr : Room n X.A) (o p : COp) (ha : PE X a (tE X.K Tb W ma fa)) (hb : PE X b (tE X.K Tb W mb fb)) (hc : PE X c (tE X.K Tb W mc fc)) (hs : noSet c = true)
    (hma : ∀ i, ma i = true → m i = true) (hmb : ∀ i, mb i = true → m i = true) (hmc : ∀ i, mc i = true → m i = true) :
    PE X (.Compare a [opC o, opC p] [b, c] pos) (tE X.K Tb W m (fun ρ => (fa ρ).bind fun (x, ρ1) => (fb ρ1).bind fun (y, ρ2) => (ofOpt (cmpD o x y)).bind fun z => (boolR (z, ρ2)).bind fun (t, ρ2) =>
      if t = true then (fc ρ2).bind fun (w, ρ3) => (ofOpt (cmpD p y w)).bind fun z => .ok (z, ρ3) else .ok (.bool false, ρ2))) :=
  (pe_chain (cmp_ok (hu65 hr) o) (cmp_ok (hu65 hr) p) ha hb hc (lastMarks_of hs)).weaken fun σ H Q h => i_chain hma hmb hmc h
theorem bool_test {t : TE} {f : Rho → R (D × Rho)} (h : ∀ σ H Q, tE X.K Tb W m f σ H Q → t σ H Q) (σ : L2.St) (H : Hp) (Q : Bool → Hp → Prop) (q : tT X.K Tb W m f σ H Q) : tTest t σ H Q := by
  obtain ⟨ρ, k, w, q⟩ := q
  refine h σ H _ ⟨ρ, k, w, ?_⟩
  cases e : f ρ with
  | bad => rw [e] at q; exact q
  | exc c => rw [e] at q; exact q
  | ok p =>
    obtain ⟨d, ρ1⟩ := p
    rw [e] at q
    cases d with
    | bool t =>
      intro k1 H1 t1 w1 v hv
      exact ⟨t, tt_of hv, q k1 H1 t1 w1⟩
    | _ => exact q.elim
theorem t_chain {n : Nat} (hr : Room n X.A) (o p : COp) (ha : PE X a (tE X.K Tb W ma fa)) (hb : PE X b (tE X.K Tb W mb fb)) (hc : PE X c (tE X.K Tb W mc fc)) (hs : noSet c = true)
    (hma : ∀ i, ma i = true → m i = true) (hmb : ∀ i, mb i = true → m i = true) (hmc : ∀ i, mc i = true → m i = true) :
    PT X (.Compare a [opC o, opC p] [b, c] pos) (tT X.K Tb W m (fun ρ => (fa ρ).bind fun (x, ρ1) => (fb ρ1).bind fun (y, ρ2) => (ofOpt (cmpD o x y)).bind fun z => (boolR (z, ρ2)).bind fun (t, ρ2) =>
      if t = true then (fc ρ2).bind fun (w, ρ3) => (ofOpt (cmpD p y w)).bind fun z => .ok (z, ρ3) else .ok (.bool false, ρ2))) :=
  (pt_chain (cmp_ok (hu65 hr) o) (cmp_ok (hu65 hr) p) ha hb hc (lastMarks_of hs)).weaken (bool_test fun σ H Q h => i_chain hma hmb hmc h)

/-! ### is None -/
def isNd (neg : Bool) (x : D) : Bool := match x with | .none => !neg | _ => neg
theorem isN_of {k : Hp} {v : V} {d : D} (h : Dp X.K k v d) : decide (v = .non) = isNd false d := by cases h <;> simp [isNd]
theorem isN_of' {k : Hp} {v : V} {d : D} (h : Dp X.K k v d) : (!decide (v = .non)) = isNd true d := by cases h <;> simp [isNd]
theorem i_isN {σ : L2.St} {H : Hp} {Q : VK} (hma : ∀ i, ma i = true → m i = true) (neg : Bool) (h : tE X.K Tb W m (fun ρ => (fa ρ).bind fun (x, ρ1) => .ok (.bool (match x with | .none => !neg | _ => neg), ρ1)) σ H Q) :
    (if neg = true then tNotN (tE X.K Tb W ma fa) else tIsN (tE X.K Tb W ma fa)) σ H Q := by
  obtain ⟨ρ, k, w, h⟩ := h
  have core : tE X.K Tb W ma fa σ H fun v H1 => Q (.bl (if neg = true then !decide (v = .non) else decide (v = .non))) H1 := by
    refine ⟨ρ, k, w, pG_mono (pG_bind h) hma fun d ρ1 k1 H1 t1 w1 h1 v hv => ?_⟩
    have e : (if neg = true then !decide (v = .non) else decide (v = .non)) = isNd neg d := by
      cases neg with
      | true => exact isN_of' hv
      | false => exact isN_of hv
    show Q (.bl (if neg = true then !decide (v = .non) else decide (v = .non))) H1
    rw [e]
    exact pG_ok h1 w1 _ (.bl _)
  cases neg with
  | true => exact core
  | false => exact core
theorem s_isN {j : Nat} {p2 : Pos} (neg : Bool) (ha : PE X a (tE X.K Tb W ma fa)) (hma : ∀ i, ma i = true → m i = true) :
    PE X (.Compare a [if neg = true then .IsNot else .Is] [.Constant .none j p2] pos) (tE X.K Tb W m fun ρ => (fa ρ).bind fun (x, ρ1) => .ok (.bool (match x with | .none => !neg | _ => neg), ρ1)) := by
  cases neg with
  | true => exact (pe_cmp (pc_notN ha) rfl).weaken fun σ H Q h => i_isN hma true h
  | false => exact (pe_cmp (pc_isN ha) rfl).weaken fun σ H Q h => i_isN hma false h
theorem t_isN {j : Nat} {p2 : Pos} (neg : Bool) (ha : PE X a (tE X.K Tb W ma fa)) (hma : ∀ i, ma i = true → m i = true) :
    PT X (.Compare a [if neg = true then .IsNot else .Is] [.Constant .none j p2] pos) (tT X.K Tb W m fun ρ => (fa ρ).bind fun (x, ρ1) => .ok (.bool (match x with | .none => !neg | _ => neg), ρ1)) := by
  cases neg with
  | true => exact (pt_cmp (pc_notN ha) rfl).weaken (bool_test fun σ H Q h => i_isN hma true h)
  | false => exact (pt_cmp (pc_isN ha) rfl).weaken (bool_test fun σ H Q h => i_isN hma false h)

/-! ### and, or, not, if -/
/-- a value that is a bool -/
theorem tE_bool {f : Rho → R (D × Rho)} {σ : L2.St} {H : Hp} {Q : VK} (h : tT X.K Tb W m f σ H fun t H1 => Q (.bl t) H1) : tE X.K Tb W m f σ H fun v H1 => ∃ t, v = .bl t ∧ Q (.bl t) H1 := by
  obtain ⟨ρ, k, w, q⟩ := h
  refine ⟨ρ, k, w, ?_⟩
  cases e : f ρ with
  | bad => rw [e] at q; exact q
  | exc c => rw [e] at q; exact q
  | ok p =>
    obtain ⟨d, ρ1⟩ := p
    rw [e] at q
    cases d with
    | bool t =>
      intro k1 H1 t1 w1 v hv
      exact ⟨t, tt_of hv, q k1 H1 t1 w1⟩
    | _ => exact q.elim
theorem tE_boolK {f : Rho → R (D × Rho)} {σ : L2.St} {ρ : Rho} {k H : Hp} {G : Bool → Rho → Hp → Hp → Prop} {R' : V → Hp → Prop} (w : WF X.K Tb σ ρ k H) (h : pG X.K Tb W m σ ρ k H ((f ρ).bind boolR) G)
    (hR : ∀ t ρ1 k1 H1, WF X.K Tb σ ρ1 k1 H1 → G t ρ1 k1 H1 → R' (.bl t) H1) : tE X.K Tb W m f σ H R' := by
  refine ⟨ρ, k, w, ?_⟩
  cases e : f ρ with
  | bad => rw [e] at h; exact h
  | exc c => rw [e] at h; exact h
  | ok p =>
    obtain ⟨d, ρ1⟩ := p
    rw [e] at h
    cases d with
    | bool t =>
      intro k1 H1 t1 w1 v hv
      rw [tt_of hv]
      exact hR t ρ1 k1 H1 w1 (h k1 H1 t1 w1)
    | _ => exact h.elim
variable {rest : List Expr}
theorem s_and (ha : PE X a (tE X.K Tb W ma fa)) (hb : PE X (.BoolOp .And (b :: rest) pos) (tE X.K Tb W mb fb)) (hma : ∀ i, ma i = true → m i = true) (hmb : ∀ i, mb i = true → m i = true) :
    PE X (.BoolOp .And (a :: b :: rest) pos) (tE X.K Tb W m fun ρ => ((fa ρ).bind boolR).bind fun (t, ρ1) => if t = true then fb ρ1 else .ok (.bool false, ρ1)) := by
  refine (pe_and ha hb).weaken fun σ H Q ⟨ρ, k, w, h⟩ => ?_
  refine tE_boolK w (pG_mono (pG_bind h) hma fun _ _ _ _ _ _ q => q) fun t ρ1 k1 H1 w1 h1 => ⟨t, rfl, ?_⟩
  cases t with
  | true => exact ⟨ρ1, k1, w1, pG_mono h1 hmb fun _ _ _ _ _ _ q => q⟩
  | false => exact pG_ok h1 w1 _ (.bl false)
theorem s_or (ha : PE X a (tE X.K Tb W ma fa)) (hb : PE X (.BoolOp .Or (b :: rest) pos) (tE X.K Tb W mb fb)) (hma : ∀ i, ma i = true → m i = true) (hmb : ∀ i, mb i = true → m i = true) :
    PE X (.BoolOp .Or (a :: b :: rest) pos) (tE X.K Tb W m fun ρ => ((fa ρ).bind boolR).bind fun (t, ρ1) => if t = true then .ok (.bool true, ρ1) else fb ρ1) := by
  refine (pe_or ha hb).weaken fun σ H Q ⟨ρ, k, w, h⟩ => ?_
  refine tE_boolK w (pG_mono (pG_bind h) hma fun _ _ _ _ _ _ q => q) fun t ρ1 k1 H1 w1 h1 => ⟨t, rfl, ?_⟩
  cases t with
  | false => exact ⟨ρ1, k1, w1, pG_mono h1 hmb fun _ _ _ _ _ _ q => q⟩
  | true => exact pG_ok h1 w1 _ (.bl true)
theorem s_not (ha : PE X a (tE X.K Tb W ma fa)) (hma : ∀ i, ma i = true → m i = true) :
    PE X (.UnaryOp .Not a pos) (tE X.K Tb W m fun ρ => ((fa ρ).bind boolR).bind fun (t, ρ1) => .ok (.bool (!t), ρ1)) := by
  refine (pe_not ha).weaken fun σ H Q ⟨ρ, k, w, h⟩ => ?_
  refine tE_boolK w (pG_mono (pG_bind h) hma fun _ _ _ _ _ _ q => q) fun t ρ1 k1 H1 w1 h1 => ⟨t, rfl, ?_⟩
  exact pG_ok h1 w1 _ (.bl _)
theorem s_ite (hc : PT X c (tT X.K Tb W mc fc)) (ha : PE X a (tE X.K Tb W ma fa)) (hb : PE X b (tE X.K Tb W mb fb)) (hmc : ∀ i, mc i = true → m i = true) (hma : ∀ i, ma i = true → m i = true) (hmb : ∀ i, mb i = true → m i = true) :
    PE X (.IfExp c a b pos) (tE X.K Tb W m fun ρ => ((fc ρ).bind boolR).bind fun (t, ρ1) => if t = true then fa ρ1 else fb ρ1) := by
  refine (pe_ifExp hc ha hb).weaken fun σ H Q ⟨ρ, k, w, h⟩ => ⟨ρ, k, w, pG_mono (pG_bind h) hmc fun t ρ1 k1 H1 t1 w1 h1 => ?_⟩
  cases t with
  | true => exact ⟨ρ1, k1, w1, pG_mono h1 hma fun _ _ _ _ _ _ q => q⟩
  | false => exact ⟨ρ1, k1, w1, pG_mono h1 hmb fun _ _ _ _ _ _ q => q⟩
/-! .. as tests -/
theorem bindB {α : Type} (r : R α) (g : α → R (D × Rho)) : (r.bind g).bind boolR = r.bind fun p => (g p).bind boolR := R.bind_assoc r g boolR
theorem t_and (ha : PT X a (tT X.K Tb W ma fa)) (hb : PW X (.BoolOp .And (b :: rest) pos) (tT X.K Tb W mb fb)) (hma : ∀ i, ma i = true → m i = true) (hmb : ∀ i, mb i = true → m i = true) :
    PW X (.BoolOp .And (a :: b :: rest) pos) (tT X.K Tb W m fun ρ => ((fa ρ).bind boolR).bind fun (t, ρ1) => if t = true then fb ρ1 else .ok (.bool false, ρ1)) := by
  refine (pw_and ha hb).weaken fun σ H Q ⟨ρ, k, w, h⟩ => ?_
  rw [bindB] at h
  refine ⟨ρ, k, w, pG_mono (pG_bind h) hma fun t ρ1 k1 H1 t1 w1 h1 => ?_⟩
  cases t with
  | true => exact ⟨ρ1, k1, w1, pG_mono h1 hmb fun _ _ _ _ _ _ q => q⟩
  | false => exact pG_ok h1 w1
theorem t_or (ha : PT X a (tT X.K Tb W ma fa)) (hb : PW X (.BoolOp .Or (b :: rest) pos) (tT X.K Tb W mb fb)) (hma : ∀ i, ma i = true → m i = true) (hmb : ∀ i, mb i = true → m i = true) :
    PW X (.BoolOp .Or (a :: b :: rest) pos) (tT X.K Tb W m fun ρ => ((fa ρ).bind boolR).bind fun (t, ρ1) => if t = true then .ok (.bool true, ρ1) else fb ρ1) := by
  refine (pw_or ha hb).weaken fun σ H Q ⟨ρ, k, w, h⟩ => ?_
  rw [bindB] at h
  refine ⟨ρ, k, w, pG_mono (pG_bind h) hma fun t ρ1 k1 H1 t1 w1 h1 => ?_⟩
  cases t with
  | false => exact ⟨ρ1, k1, w1, pG_mono h1 hmb fun _ _ _ _ _ _ q => q⟩
  | true => exact pG_ok h1 w1
theorem t_not (ha : PT X a (tT X.K Tb W ma fa)) (hma : ∀ i, ma i = true → m i = true) :
    PT X (.UnaryOp .Not a pos) (tT X.K Tb W m fun ρ => ((fa ρ).bind boolR).bind fun (t, ρ1) => .ok (.bool (!t), ρ1)) := by
  refine (pt_not ha).weaken fun σ H Q ⟨ρ, k, w, h⟩ => ?_
  rw [bindB] at h
  exact ⟨ρ, k, w, pG_mono (pG_bind h) hma fun t ρ1 k1 H1 t1 w1 h1 => pG_ok h1 w1⟩
theorem t_tru (ha : PE X a (tE X.K Tb W ma fa)) (hp : plainT a = true) (hma : ∀ i, ma i = true → m i = true) :
    PT X a (tT X.K Tb W m fun ρ => (fa ρ).bind fun (x, ρ1) => (ofOpt (truthD x)).bind fun t => .ok (.bool t, ρ1)) := by
  refine (pt_truth ha (plainT_of hp)).weaken fun σ H Q ⟨ρ, k, w, h⟩ => ?_
  rw [bindB] at h
  refine ⟨ρ, k, w, pG_mono (pG_bind h) hma fun d ρ1 k1 H1 t1 w1 h1 v hv => ?_⟩
  dsimp only at h1
  cases e : truthD d with
  | none => rw [e] at h1; exact h1.elim
  | some t =>
    rw [e] at h1
    exact ⟨t, tru_of w1.sub hv e, pG_ok h1 w1⟩
theorem s_neg (ha : PE X a (tE X.K Tb W ma fa)) (hma : ∀ i, ma i = true → m i = true) :
    PE X (.UnaryOp .USub a pos) (tE X.K Tb W m fun ρ => (fa ρ).bind fun (x, ρ1) => match x with | .int i => .ok (.int (-i), ρ1) | _ => .bad) := by
  refine (pe_un un_neg ha).weaken fun σ H Q ⟨ρ, k, w, h⟩ => ⟨ρ, k, w, pG_mono (pG_bind h) hma fun d ρ1 k1 H1 t1 w1 h1 v hv => ?_⟩
  cases d with
  | int i => exact ⟨i, dp_int hv, pG_ok h1 w1 _ (.int _)⟩
  | _ => exact h1.elim

/-! ### argument lists, displays -/
variable {es : List Expr} {fs : Rho → R (List D × Rho)} {ms : Nat → Bool}
theorem a_nil : PA X [] (tA X.K Tb W m fun ρ => .ok ([], ρ)) := pa_nil.weaken fun σ H Q ⟨ρ, k, w, h⟩ => pG_ok h w _ .nil
theorem a_cons (ha : PE X a (tE X.K Tb W ma fa)) (hr : PA X es (tA X.K Tb W ms fs)) (hs : noStar a = true) (hma : ∀ i, ma i = true → m i = true) (hms : ∀ i, ms i = true → m i = true) :
    PA X (a :: es) (tA X.K Tb W m fun ρ => (fa ρ).bind fun (x, ρ1) => (fs ρ1).bind fun (xs, ρ2) => .ok (x :: xs, ρ2)) := by
  refine (pa_cons ha hr (star_cons hs es X.env)).weaken fun σ H Q ⟨ρ, k, w, h⟩ => ⟨ρ, k, w, pG_mono (pG_bind h) hma fun d ρ1 k1 H1 t1 w1 h1 v hv => ?_⟩
  refine ⟨ρ1, k1, w1, pG_mono (pG_bind h1) hms fun ds ρ2 k2 H2 t2 w2 h2 vs hvs => ?_⟩
  exact pG_ok h2 w2 _ (.cons (dp_mono t2.kk hv) hvs)
theorem pG_if {α : Type} {c : Prop} [Decidable c] {σ : L2.St} {ρ : Rho} {k H : Hp} {r : R (α × Rho)} {G : α → Rho → Hp → Hp → Prop} (h : pG X.K Tb W m σ ρ k H (if c then r else .bad) G) : c ∧ pG X.K Tb W m σ ρ k H r G := by
  by_cases hc : c
  · rw [if_pos hc] at h; exact ⟨hc, h⟩
  · rw [if_neg hc] at h; exact h.elim
theorem s_tup {x1 : Nat} (hs : PA X es (tA X.K Tb W ms fs)) (hms : ∀ i, ms i = true → m i = true) :
    PE X (.Tuple es x1 pos) (tE X.K Tb W m fun ρ => (fs ρ).bind fun (xs, ρ1) => if xs.length ≤ line then .ok (.tuple xs, ρ1) else .bad) := by
  refine (pe_tup hs).weaken fun σ H Q ⟨ρ, k, w, h⟩ => ⟨ρ, k, w, pG_mono (pG_bind h) hms fun ds ρ1 k1 H1 t1 w1 h1 vs hvs => ?_⟩
  obtain ⟨hl, h1⟩ := pG_if h1
  refine ⟨by rw [line_eq, hvs.lenD]; exact hl, fun p hp => ?_⟩
  have px := Px.alloc w1.sub hp (o := .tup vs) (fun ps z => by cases z)
  exact pG_okx h1 w1 px _ (.tup (.of upd_same) (dps_mono px.kk hvs))
/-- from a value of one's own to a shared one -/
theorem f2e {K : PySem.W.Frag} {f : Rho → R (D × Rho)} (hl : ∀ ρ d ρ1, f ρ = .ok (d, ρ1) → ∃ xs, d = .list xs) {σ : L2.St} {H : Hp} {Q : VK} (h : tE K Tb W m f σ H Q) : tF K Tb W m f σ H Q := by
  obtain ⟨ρ, k, w, q⟩ := h
  refine ⟨ρ, k, w, ?_⟩
  cases e : f ρ with
  | bad => rw [e] at q; exact q
  | exc c => rw [e] at q; exact q
  | ok z =>
    obtain ⟨d, ρ1⟩ := z
    rw [e] at q
    intro k1 H1 t1 w1 p hp hk ho
    obtain ⟨xs, rfl⟩ := hl ρ d ρ1 e
    obtain ⟨vs, h1, h2⟩ := ho
    have kk : Same k1 (upd k1 p (.lst vs)) := upd_some hk
    have notOwn : ∀ {j q}, Own σ ρ1 j q → q ≠ p := fun {j q} o y => by
      subst y
      exact w.ownNe (t1.own _ _ o) hp
    refine q (upd k1 p (.lst vs)) H1 ⟨t1.kk.trans kk, fun r hr => ?_, t1.frm, t1.dom, t1.slt, t1.own, t1.tb⟩ ⟨fun r o hr => ?_, fun r ps hr => ?_, w1.tab, w1.len, fun j d hj => ?_, fun j d hj => ?_, w1.dis⟩ _ (.lst (.of upd_same) (dps_mono kk h2))
    · by_cases z : r = p
      · subst z; exact .inr (.inl hp)
      · rw [upd_ne z] at hr; exact t1.new r hr
    · by_cases z : r = p
      · subst z; rw [upd_same] at hr; cases hr; exact h1
      · rw [upd_ne z] at hr; exact w1.sub r o hr
    · by_cases z : r = p
      · subst z; rw [upd_same] at hr; cases hr
      · rw [upd_ne z] at hr; exact w1.ntb r ps hr
    · obtain ⟨v, g1, g2⟩ := w1.val j d hj
      exact ⟨v, g1, dp_mono kk g2⟩
    · obtain ⟨r, g1, g2, g3⟩ := w1.own j d hj
      exact ⟨r, g1, by rw [upd_ne (notOwn ⟨⟨d, hj⟩, g1⟩)]; exact g2, g3.mono kk fun o ho _ => ho⟩
theorem F2E {f : Rho → R (D × Rho)} (h : PE X a (tF X.K Tb W m f)) (hl : ∀ ρ d ρ1, f ρ = .ok (d, ρ1) → ∃ xs, d = .list xs) : PE X a (tE X.K Tb W m f) := h.weaken fun σ H Q q => f2e hl q
theorem back_none {σ : L2.St} {ρ ρ1 : Rho} {k k1 H H1 : Hp} {p : Addr} (t : Tr Tb m σ ρ k H ρ1 k1 H1) (h : H1 p = none) : H p = none := by
  cases e : H p with
  | none => rfl
  | some o => exact absurd h (t.dom p (by rw [e]; exact fun z => by cases z))
theorem sub_none {k H : Hp} {p : Addr} (s : Same k H) (h : H p = none) : k p = none := by
  cases e : k p with
  | none => rfl
  | some o => rw [s p o e] at h; cases h
theorem f_lst (hs : PA X es (tA X.K Tb W ms fs)) (hms : ∀ i, ms i = true → m i = true) :
    PE X (.List es pos) (tF X.K Tb W m fun ρ => (fs ρ).bind fun (xs, ρ1) => if xs.length ≤ line then .ok (.list xs, ρ1) else .bad) := by
  refine (pe_lst hs).weaken fun σ H Q ⟨ρ, k, w, h⟩ => ⟨ρ, k, w, pG_mono (pG_bind h) hms fun ds ρ1 k1 H1 t1 w1 h1 vs hvs => ?_⟩
  obtain ⟨hl, h1⟩ := pG_if h1
  refine ⟨by rw [line_eq, hvs.lenD]; exact hl, fun p hp => ?_⟩
  have px := Px.hide w1.sub hp (o := .lst vs)
  exact pG_okx h1 w1 px p (back_none t1 hp) (sub_none w1.sub hp) ⟨vs, upd_same, hvs⟩
theorem lst_list {g : List D × Rho → R (D × Rho)} (hg : ∀ p d ρ1, g p = .ok (d, ρ1) → ∃ xs, d = .list xs) : ∀ ρ d ρ1, (fs ρ).bind g = .ok (d, ρ1) → ∃ xs, d = .list xs := by
  intro ρ d ρ1 h
  cases e : fs ρ with
  | bad => rw [e] at h; cases h
  | exc c => rw [e] at h; cases h
  | ok p => rw [e] at h; exact hg p d ρ1 h
theorem lst_g : ∀ (p : List D × Rho) (d : D) (ρ1 : Rho), (if p.1.length ≤ line then R.ok (PyData.list p.1, p.2) else .bad) = .ok (d, ρ1) → ∃ xs, d = .list xs := by
  intro p d ρ1 h
  by_cases hc : p.1.length ≤ line
  · rw [if_pos hc] at h; cases h; exact ⟨_, rfl⟩
  · rw [if_neg hc] at h; cases h
theorem s_lst (hs : PA X es (tA X.K Tb W ms fs)) (hms : ∀ i, ms i = true → m i = true) :
    PE X (.List es pos) (tE X.K Tb W m fun ρ => (fs ρ).bind fun (xs, ρ1) => if xs.length ≤ line then .ok (.list xs, ρ1) else .bad) := F2E (f_lst hs hms) (lst_list lst_g)
theorem s_lrep {n : Nat} {j : Nat} {p2 p3 : Pos} (hs : PA X es (tA X.K Tb W ms fs)) (hms : ∀ i, ms i = true → m i = true) :
    PE X (.BinOp (.List es p2) .Mult (.Constant (.int (n : Int)) j p3) pos) (tE X.K Tb W m fun ρ => (fs ρ).bind fun (xs, ρ1) => if xs.length ≤ 1000 ∧ n ≤ 1000 then .ok (.list (reps n xs), ρ1) else .bad) := by
  refine (pe_op op_rep (pe_lst hs) pe_int).weaken fun σ H Q ⟨ρ, k, w, h⟩ => ⟨ρ, k, w, pG_mono (pG_bind h) hms fun ds ρ1 k1 H1 t1 w1 h1 vs hvs => ?_⟩
  obtain ⟨⟨hl, hn⟩, h1⟩ := pG_if h1
  have hl' : vs.length ≤ 1000 := by rw [hvs.lenD]; exact hl
  refine ⟨by rw [line_eq]; exact Nat.le_trans hl' (by decide), fun p hp => ⟨p, n, vs, rfl, rfl, upd_same, by omega, by omega, ?_, fun q hq => ?_⟩⟩
  · rw [line_eq, Int.toNat_natCast]
    exact Nat.le_trans (Nat.mul_le_mul hl' hn) (by decide)
  · have px1 := Px.hide w1.sub hp (o := .lst vs)
    rw [Int.toNat_natCast]
    have px2 := Px.alloc px1.sub hq (o := .lst (List.replicate n vs).flatten) (fun ps z => by cases z)
    exact pG_okx h1 w1 (px1.trans px2) _ (.lst (.of upd_same) (dps_mono px2.kk (reps_all hvs n)))

/-! ### subscripts, slices -/
theorem s_ix {xa xb : Ex} (C : Ctx) (ha : PE X a (tE X.K Tb W (fun i => occ i xa) (evE C xa))) (hvar : VarOk X xa a) (hb : PE X b (tE X.K Tb W (fun i => occ i xb) (evE C xb))) (hs : plainIx b = true) :
    PE X (.Subscript a b pos) (tE X.K Tb W (fun i => occ i (.ix xa xb)) (evE C (.ix xa xb))) := by
  refine (pe_ix ix_seq (s_peekB (sc := X.env.scope) (xb := xb) C ha hvar) hb (plainIx_of hs)).weaken fun σ H Q ⟨ρ, k, w, h⟩ => ?_
  unfold evE at h
  refine ⟨ρ, k, w, pG_mono (pG_bind h) (fun i z => by simp [occ, z]) fun d ρ1 k1 H1 t1 w1 h1 v hv => ?_⟩
  refine ⟨ρ1, k1, w1, pG_mono (pG_bind h1) (fun i z => by simp [occ, z]) fun e ρ2 k2 H2 t2 w2 h2 u hu => ?_⟩
  exact ix_ok ⟨k2, d, e, w2.sub, keep_own w1 t2 w2 hv, hu, fin_of w2 h2⟩
def tP (K : PySem.W.Frag) (T : Tbs) (W : XW) (ms : Nat → Bool) (f : Rho → R (Option Int × Rho)) : TO := fun σ H Q => ∃ ρ k, WF K T σ ρ k H ∧ pG K T W ms σ ρ k H (f ρ) fun o _ _ H1 => Q o H1
theorem PO.weaken {e : Option Expr} {t t' : TO} (h : PO X e t) (mm : ∀ σ H Q, t' σ H Q → t σ H Q) : PO X e t' := ⟨fun pins s σ H Q I q => h.run pins s σ H Q I (mm σ H Q q)⟩
theorem p_none {f : Rho → R (D × Rho)} : PO X none (tP X.K Tb W m (prtR true f)) := PO.weaken po_none fun σ H Q ⟨ρ, k, w, h⟩ => pG_ok (a := none) h w
theorem p_some {f : Rho → R (D × Rho)} (h : PE X a (tE X.K Tb W ma f)) (hma : ∀ i, ma i = true → m i = true) : PO X (some a) (tP X.K Tb W m (prtR false f)) := by
  refine PO.weaken (po_some h) fun σ H Q ⟨ρ, k, w, q⟩ => ?_
  have q : pG X.K Tb W m σ ρ k H ((f ρ).bind fun (x, ρ1) => (ofOpt (partD x)).bind fun p => .ok (p, ρ1)) fun o _ _ H1 => Q o H1 := q
  refine ⟨ρ, k, w, pG_mono (pG_bind q) hma fun d ρ1 k1 H1 t1 w1 h1 v hv => ?_⟩
  cases d with
  | int i => exact ⟨i, dp_int hv, pG_ok (a := some i) h1 w1⟩
  | _ => exact h1.elim
theorem s_sl {lo hi : Option Expr} {p2 : Pos} {fl fh : Rho → R (Option Int × Rho)} (ha : PE X a (tE X.K Tb W ma fa)) (hl : PO X lo (tP X.K Tb W mb fl)) (hh : PO X hi (tP X.K Tb W mc fh))
    (hma : ∀ i, ma i = true → m i = true) (hmb : ∀ i, mb i = true → m i = true) (hmc : ∀ i, mc i = true → m i = true) :
    PE X (.Subscript a (.Slice lo hi none p2) pos) (tE X.K Tb W m fun ρ => (fa ρ).bind fun (x, ρ1) => (fl ρ1).bind fun (l, ρ2) => (fh ρ2).bind fun (h, ρ3) => (ofOpt (slD x l h)).bind fun z => .ok (z, ρ3)) := by
  refine (pe_slice sl_any ha hl hh).weaken fun σ H Q ⟨ρ, k, w, h⟩ => ⟨ρ, k, w, pG_mono (pG_bind h) hma fun d ρ1 k1 H1 t1 w1 h1 v hv => ?_⟩
  refine ⟨ρ1, k1, w1, pG_mono (pG_bind h1) hmb fun l ρ2 k2 H2 t2 w2 h2 => ?_⟩
  refine ⟨ρ2, k2, w2, pG_mono (pG_bind h2) hmc fun u ρ3 k3 H3 t3 w3 h3 => ?_⟩
  exact sl_ok w3.sub (dp_mono (t2.kk.trans t3.kk) hv) (fin_of w3 h3)

/-! ### built-ins -/
theorem s_bi {x : Str} {id : String} {bi : Bi} {e : Expr} {p : Pos} (hc : CallR X (.builtin id) (rBi X.K bi)) (hg : Gl X x) (hm : X.mg x = none) (hv : bootBuiltins x = some (.builtin id)) (hn : x ≠ "__name__") (hdb : (x == ("__debug__" : Str)) = false)
    (hs : PA X (e :: es) (tA X.K Tb W ms fs)) (hst : (e :: es).all noStar = true) (hms : ∀ i, ms i = true → m i = true) :
    PE X (.Call (.Name x p) (e :: es) [] pos) (tE X.K Tb W m fun ρ => (fs ρ).bind fun (xs, ρ1) => (ofOpt (biD bi xs)).bind fun z => .ok (z, ρ1)) := by
  rw [List.all_cons, Bool.and_eq_true] at hst
  refine (pe_callB hc hg hm hv hs hn hdb (star_cons hst.1 es X.env) (plain_all pos hst.2)).weaken fun σ H Q ⟨ρ, k, w, h⟩ => ⟨ρ, k, w, pG_mono (pG_bind h) hms fun ds ρ1 k1 H1 t1 w1 h1 vs hvs => ?_⟩
  exact ⟨k1, ds, w1.sub, hvs, fin_of w1 h1⟩
theorem s_biT {x : Str} {id : String} {bi : Bi} {e : Expr} {p : Pos} (hc : CallR X (.type id) (rBi X.K bi)) (hg : Gl X x) (hm : X.mg x = none) (hv : bootBuiltins x = some (.type id)) (hn : x ≠ "__name__") (hdb : (x == ("__debug__" : Str)) = false)
    (hs : PA X (e :: es) (tA X.K Tb W ms fs)) (hst : (e :: es).all noStar = true) (hms : ∀ i, ms i = true → m i = true) :
    PE X (.Call (.Name x p) (e :: es) [] pos) (tE X.K Tb W m fun ρ => (fs ρ).bind fun (xs, ρ1) => (ofOpt (biD bi xs)).bind fun z => .ok (z, ρ1)) := by
  rw [List.all_cons, Bool.and_eq_true] at hst
  refine (pe_callTy hc hg hm hv hs hn hdb (star_cons hst.1 es X.env) (plain_all pos hst.2)).weaken fun σ H Q ⟨ρ, k, w, h⟩ => ⟨ρ, k, w, pG_mono (pG_bind h) hms fun ds ρ1 k1 H1 t1 w1 h1 vs hvs => ?_⟩
  exact ⟨k1, ds, w1.sub, hvs, fin_of w1 h1⟩
/-- len(x): an own list is only looked at -/
theorem s_len {xa : Ex} {x : Str} {p : Pos} (C : Ctx) (hg : Gl X x) (hx : x = "len") (hm : X.mg x = none) (hn : x ≠ "__name__") (hdb : (x == ("__debug__" : Str)) = false)
    (ha : PE X a (tE X.K Tb W (fun i => occ i xa) (evE C xa))) (hvar : VarOk X xa a) (hst : noStar a = true) :
    PE X (.Call (.Name x p) [a] [] pos) (tE X.K Tb W (fun i => occ i (.bi .len (.cons xa .nil))) (evE C (.bi .len (.cons xa .nil)))) := by
  subst hx
  refine (pe_callB bi_len hg hm boot_len (pa_cons (s_peekB (sc := X.env.scope) (xb := .nil) C ha hvar) pa_nil (star_cons hst [] X.env)) hn hdb (star_cons hst [] X.env) rfl).weaken fun σ H Q ⟨ρ, k, w, h⟩ => ⟨ρ, k, w, ?_⟩
  have e : peekL .len (.cons xa .nil) (evA C (.cons xa .nil)) ρ = (peekB xa .nil (evE C xa) ρ).bind fun (d, ρ1) => .ok ([d], ρ1) := by
    have e2 : evA C (.cons xa .nil) ρ = (evE C xa ρ).bind fun (d, ρ1) => .ok ([d], ρ1) := by
      rw [evA]
      cases evE C xa ρ with
      | bad => rfl
      | exc c => rfl
      | ok q => obtain ⟨d, ρ1⟩ := q; show (evA C .nil ρ1).bind (fun (xs, ρ2) => R.ok (d :: xs, ρ2)) = .ok ([d], ρ1); rw [evA]; rfl
    unfold peekL peekB
    cases xa with
    | var i =>
      simp only
      cases q : ρ[i]? with
      | none => simp only; exact e2
      | some s =>
        cases s with
        | own d => cases d <;> first | (simp only [occ]; rfl) | (simp only; exact e2)
        | _ => simp only; exact e2
    | _ => simp only; exact e2
  unfold evE at h
  rw [e, R.bind_assoc] at h
  refine pG_mono (pG_bind h) (fun i z => by simp [occ, z]) fun d ρ1 k1 H1 t1 w1 h1 v hv => ?_
  exact ⟨k1, v, d, w1.sub, rfl, keep_own w1 .refl w1 hv, fin_of w1 h1⟩
theorem s_isi {x y : Str} {t : Ty} {p p2 : Pos} (hg : Gl X x) (hx : x = "isinstance") (hm : X.mg x = none) (hn : x ≠ "__name__") (hdb : (x == ("__debug__" : Str)) = false)
    (hg2 : Gl X y) (hy : y = tyN t) (hm2 : X.mg y = none) (hn2 : y ≠ "__name__") (hdb2 : (y == ("__debug__" : Str)) = false)
    (ha : PE X a (tE X.K Tb W ma fa)) (hst : noStar a = true) (hma : ∀ i, ma i = true → m i = true) :
    PE X (.Call (.Name x p) [a, .Name y p2] [] pos) (tE X.K Tb W m fun ρ => (fa ρ).bind fun (x, ρ1) => (ofOpt (isD x t)).bind fun z => .ok (z, ρ1)) := by
  subst hx
  have hb : bootBuiltins y = some (.type (tyN t)) := by subst hy; cases t <;> decide +kernel
  refine (pe_callB call_isi hg hm boot_isinstance (pa_cons ha (pa_cons (pe_bltn (v := .ty (tyN t)) hg2 hm2 hb rfl hn2 hdb2) pa_nil) (star_cons hst _ X.env)) hn hdb (star_cons hst _ X.env) rfl).weaken fun σ H Q ⟨ρ, k, w, h⟩ => ⟨ρ, k, w, pG_mono (pG_bind h) hma fun d ρ1 k1 H1 t1 w1 h1 v hv => ?_⟩
  exact isi_ok w1.sub hv (fin_of w1 h1)
end
end Fo

set_option Elab.async false
set_option linter.all false
set_option maxRecDepth 100000
set_option maxHeartbeats 4000000
/-! SemB4: calls of the text's own defs, methods, dicts. -/
namespace Fo
open PySem L2 LamX PyProof.Rows

section
variable {K : PySem.W.Frag} {T : Tbs} {σ : L2.St} {ρ : Rho} {k H : Hp}
/-- an own thing gets another content -/
theorem own_upd {m : Nat → Bool} {i : Nat} {a : Addr} {d : D} {o : HO} (w : WF K T σ ρ k H) (ow : Own σ ρ i a) (hm : m i = true) (n : ∀ ps, o ≠ .tbl ps) (r : OwnRep K k (upd H a o) a d) :
    Tr T m σ ρ k H (ρ.set i (.own d)) k (upd H a o) ∧ WF K T σ (ρ.set i (.own d)) k (upd H a o) := by
  obtain ⟨d0, u, e0, r0, ka, ha, nt⟩ := w.ownH ow
  have hi : i < ρ.length := (List.getElem?_eq_some_iff.mp e0).1
  have lift : ∀ {j q}, Own σ (ρ.set i (.own d)) j q → Own σ ρ j q := fun {j q} oo => by
    by_cases z : i = j
    · subst z; exact ⟨⟨d0, e0⟩, oo.2⟩
    · obtain ⟨⟨d1, e1⟩, e2⟩ := oo
      rw [List.getElem?_set_ne z] at e1
      exact ⟨⟨d1, e1⟩, e2⟩
  have tb : Tabs T H → Tabs T (upd H a o) := fun h p hp => by
    obtain ⟨ps, h1, h2, h3⟩ := h p hp
    have ne : p.1 ≠ a := fun z => by rw [z, ha] at h1; cases h1; exact nt ps rfl
    refine ⟨ps, by rw [upd_ne ne]; exact h1, h2, fun pos cv hc => ?_⟩
    obtain ⟨c, e1, e2⟩ := h3 pos cv hc
    refine ⟨c, e1, ?_⟩
    have ne2 : c ≠ a := fun z => by
      rw [z, ha] at e2
      cases e2
      cases d0 with
      | list xs => obtain ⟨vs, g, _⟩ := r0; rw [ha] at g; cases g
      | dict xs => obtain ⟨vs, g, _⟩ := r0; rw [ha] at g; cases g
      | _ => exact r0
    rw [upd_ne ne2]; exact e2
  refine ⟨⟨fun _ _ h => h, fun _ h => .inl h, fun b x hb _ => ?_, fun b hb => ?_, fun j hj => ?_, fun j q oo => lift oo, tb⟩, ⟨fun b x hb => ?_, w.ntb, tb w.tab, by rw [List.length_set]; exact w.len, fun j x hj => ?_, fun j x hj => ?_, fun j j' q o1 o2 => w.dis j j' q (lift o1) (lift o2)⟩⟩
  · by_cases z : b = a
    · subst z; exact .inr ⟨i, hm, ow⟩
    · rw [upd_ne z]; exact .inl hb
  · by_cases z : b = a
    · subst z; rw [upd_same]; exact fun z => by cases z
    · rw [upd_ne z]; exact hb
  · have ne : i ≠ j := fun z => by subst z; rw [hm] at hj; cases hj
    rw [List.getElem?_set_ne ne]
  · have ne : b ≠ a := fun z => by subst z; rw [ka] at hb; cases hb
    rw [upd_ne ne]; exact w.sub b x hb
  · by_cases z : i = j
    · subst z; rw [List.getElem?_set_self hi] at hj; cases hj
    · rw [List.getElem?_set_ne z] at hj; exact w.val j x hj
  · by_cases z : i = j
    · subst z; rw [List.getElem?_set_self hi] at hj; cases hj
      exact ⟨a, ow.2, ka, r⟩
    · rw [List.getElem?_set_ne z] at hj
      obtain ⟨q, g1, g2, g3⟩ := w.own j x hj
      have ne : q ≠ a := fun y => by subst y; exact z (w.dis i j q ow ⟨⟨x, hj⟩, g1⟩)
      exact ⟨q, g1, g2, g3.mono (fun _ _ h => h) fun y hy _ => by rw [upd_ne ne]; exact hy⟩

/-! ### a callee's slots -/
theorem get_val {ds : List D} {i : Nat} {s : Sl} (h : (ds.map Sl.val)[i]? = some s) : ∃ d, ds[i]? = some d ∧ s = .val d := by
  rw [List.getElem?_map] at h
  cases e : ds[i]? with
  | none => rw [e] at h; cases h
  | some d => rw [e] at h; exact ⟨d, rfl, (Option.some.inj h).symm⟩
theorem no_own {σ' : L2.St} {ds : List D} {i : Nat} {a : Addr} : ¬ Own σ' (ds.map .val) i a := fun ⟨⟨d, e⟩, _⟩ => by
  obtain ⟨_, _, z⟩ := get_val e
  cases z
theorem wf_vals {vs : List V} {ds : List D} (w : WF K T σ ρ k H) (h : DpAll K k vs ds) : WF K T (vs.map some) (ds.map .val) k H where
  sub := w.sub
  ntb := w.ntb
  tab := w.tab
  len := by rw [List.length_map, List.length_map, h.lenD]
  val := fun i d e => by
    obtain ⟨d', e1, z⟩ := get_val e
    cases z
    obtain ⟨v, g1, g2⟩ := h.getD e1
    exact ⟨v, by rw [List.getElem?_map, g1]; rfl, g2⟩
  own := fun i d e => by
    obtain ⟨_, _, z⟩ := get_val e
    cases z
  dis := fun i j a o => absurd o no_own
theorem own_io {vs : List V} {a b : Addr} {d : D} {ds : List D} {i : Nat} (o : Own ((V.ref a :: vs).map some) (.own d :: ds.map .val) i b) : i = 0 ∧ b = a := by
  obtain ⟨⟨x, e⟩, e2⟩ := o
  cases i with
  | zero => simp at e2; exact ⟨rfl, e2.symm⟩
  | succ i =>
    rw [List.getElem?_cons_succ] at e
    obtain ⟨_, _, z⟩ := get_val e
    cases z
theorem wf_io {vs : List V} {ds : List D} {a : Addr} {d : D} (w : WF K T σ ρ k H) (ka : k a = none) (r : OwnRep K k H a d) (h : DpAll K k vs ds) : WF K T ((V.ref a :: vs).map some) (.own d :: ds.map .val) k H where
  sub := w.sub
  ntb := w.ntb
  tab := w.tab
  len := by rw [List.length_map, List.length_cons, List.length_cons, List.length_map, h.lenD]
  val := fun i x e => by
    cases i with
    | zero => simp at e
    | succ i =>
      rw [List.getElem?_cons_succ] at e
      obtain ⟨d', e1, z⟩ := get_val e
      cases z
      obtain ⟨v, g1, g2⟩ := h.getD e1
      exact ⟨v, by rw [List.map_cons, List.getElem?_cons_succ, List.getElem?_map, g1]; rfl, g2⟩
  own := fun i x e => by
    cases i with
    | zero =>
      simp at e; subst e
      exact ⟨a, rfl, ka, r⟩
    | succ i =>
      rw [List.getElem?_cons_succ] at e
      obtain ⟨_, _, z⟩ := get_val e
      cases z
  dis := fun i j b o1 o2 => (own_io o1).1.trans (own_io o2).1.symm
end

section
variable {X : Cx} {Tb : Tbs} {W : XW} {ca : Nat → Addr} {t : Tx} {Q : Prog} {n : Nat} {N : List Str} {m ms : Nat → Bool} {e : Expr} {es : List Expr} {fs : Rho → R (List D × Rho)} {pos : Pos}
theorem ownAt_noexc {ρ : Rho} {i : Nat} (c : Nat) : ownAt ρ i ≠ .exc c := fun h => by
  unfold ownAt at h
  split at h <;> cases h
theorem own_get {ρ : Rho} {i : Nat} {ys : List D} (h : ownAt ρ i = .ok ys) : ρ[i]? = some (.own (.list ys)) := by
  unfold ownAt at h
  split at h
  · cases h; assumption
  · cases h
theorem own_of {K : PySem.W.Frag} {σ : L2.St} {ρ : Rho} {k H : Hp} {i : Nat} {ys : List D} (w : WF K Tb σ ρ k H) (h : ownAt ρ i = .ok ys) : ∃ a, Own σ ρ i a := by
  have e := own_get h
  obtain ⟨a, g, _⟩ := w.own i _ e
  exact ⟨a, ⟨_, e⟩, g⟩
theorem callF_np {f : Nat} {F : Df} {ds : List D} (hF : Q.defs f = some F) (h : callF Q n f ds ≠ .bad) : ds.length = F.np := by
  cases n with
  | zero => exact absurd rfl h
  | succ n =>
    rw [callF_succ, hF] at h
    dsimp only at h
    by_cases hl : ds.length = F.np
    · exact hl
    · rw [if_neg hl] at h; exact absurd rfl h
/-- behind a call of a def that changes no list of ours -/
theorem behind {σ σ' : L2.St} {ρ ρ' ρ2 : Rho} {k H k1 H1 : Hp} {m' : Nat → Bool} (w : WF X.K Tb σ ρ k H) (tr : Tr Tb m' σ' ρ' k H ρ2 k1 H1) (hn : ∀ i a, m' i = true → ¬ Own σ' ρ' i a) (sub : Same k1 H1) (ntb : ∀ a ps, k1 a ≠ some (.tbl ps)) :
    Tr Tb m σ ρ k H ρ k1 H1 ∧ WF X.K Tb σ ρ k1 H1 := by
  have fr : ∀ a o, H a = some o → (∀ ps, o ≠ .tbl ps) → H1 a = some o := fun a o h n => (tr.frm a o h n).elim id fun ⟨i, h1, h2⟩ => absurd h2 (hn i a h1)
  have nw : ∀ a, k1 a ≠ none → k a ≠ none ∨ H a = none := fun a h => by
    rcases tr.new a h with q | q | ⟨i, h1, h2⟩
    · exact .inl q
    · exact .inr q
    · exact absurd h2 (hn i a h1)
  refine ⟨⟨tr.kk, fun a h => (nw a h).imp id .inl, fun a o h n => .inl (fr a o h n), tr.dom, fun _ _ => rfl, fun _ _ h => h, tr.tb⟩, ⟨sub, ntb, tr.tb w.tab, w.len, fun i d e => ?_, fun i d e => ?_, w.dis⟩⟩
  · obtain ⟨v, g1, g2⟩ := w.val i d e
    exact ⟨v, g1, dp_mono tr.kk g2⟩
  · obtain ⟨a, g1, g2, g3⟩ := w.own i d e
    refine ⟨a, g1, ?_, g3.mono tr.kk (fr a)⟩
    cases z : k1 a with
    | none => rfl
    | some x =>
      rcases nw a (by rw [z]; exact fun z => by cases z) with q | q
      · exact absurd g2 q
      · exact absurd q (w.ownNe ⟨⟨d, e⟩, g1⟩)
theorem behindX {σ σ' : L2.St} {ρ ρ' : Rho} {H H1 : Hp} {m' : Nat → Bool} (tr : TrX Tb m' σ' ρ' H H1) (hn : ∀ i a, m' i = true → ¬ Own σ' ρ' i a) : TrX Tb m σ ρ H H1 :=
  ⟨fun a o h n => .inl ((tr.1 a o h n).elim id fun ⟨i, h1, h2⟩ => absurd h2 (hn i a h1)), tr.2⟩

/-- what a def hands back is wanted: shared, or one's own -/
def gR (K : PySem.W.Frag) (own : Bool) (H0 : Hp) (Qv : VK) (d : D) (_ : Rho) (k1 H1 : Hp) : Prop := if own = true then (∀ p, H0 p = none → k1 p = none → OwnRep K k1 H1 p d → Qv (.ref p) H1) else ∀ v, Dp K k1 v d → Qv v H1
theorem gR_t {K : PySem.W.Frag} {own : Bool} {H0 : Hp} {Qv : VK} {d : D} {ρ : Rho} {k1 H1 : Hp} (ho : own = true) : gR K own H0 Qv d ρ k1 H1 = (∀ p, H0 p = none → k1 p = none → OwnRep K k1 H1 p d → Qv (.ref p) H1) := by unfold gR; rw [if_pos ho]
theorem gR_f {K : PySem.W.Frag} {own : Bool} {H0 : Hp} {Qv : VK} {d : D} {ρ : Rho} {k1 H1 : Hp} (ho : ¬ own = true) : gR K own H0 Qv d ρ k1 H1 = ∀ v, Dp K k1 v d → Qv v H1 := by unfold gR; rw [if_neg ho]
/-- what a def hands back: shared, or one's own -/
def tR (K : PySem.W.Frag) (T : Tbs) (W : XW) (ms : Nat → Bool) (own : Bool) (f : Rho → R (D × Rho)) : TE := if own = true then tF K T W ms f else tE K T W ms f
theorem sp_call {f : Nat} {F : Df} {σ : L2.St} {ρ : Rho} {k H : Hp} {vs : List V} {ds : List D} {Qv : VK} {H0 : Hp} (hF : Q.defs f = some F) (hio : F.io = false) (w : WF X.K Tb σ ρ k H) (hvs : DpAll X.K k vs ds)
    (h0 : ∀ p, H p = none → H0 p = none)
    (h : pG X.K Tb W m σ ρ k H ((callF Q n f ds).bind fun (d, _) => .ok (d, ρ)) (gR X.K F.own H0 Qv)) :
    spD X.K Tb Q ca n f F vs H Qv (L2.WE (wx ca W) σ) := by
  have hl : ds.length = F.np := callF_np hF fun z => by rw [z] at h; exact h
  have ea : argS F ds = ds.map .val := by unfold argS; rw [hio]
  have eb : ∀ zs, backS F ds zs = ds.map .val := fun zs => by unfold backS; rw [hio]
  have ei : ∀ i a, ioS F i = true → ¬ Own (vs.map some) (argS F ds) i a := fun i a z => by unfold ioS at z; rw [hio] at z; cases z
  refine ⟨k, ds, by rw [ea]; exact wf_vals w hvs, by rw [hvs.lenD]; exact hl, hl, ?_⟩
  cases q : callF Q n f ds with
  | bad => rw [q] at h; exact h
  | exc c => rw [q] at h; exact fun H1 tx => ⟨c, rfl, rfl, h H1 (behindX tx ei)⟩
  | ok r =>
    obtain ⟨d, zs⟩ := r
    rw [q] at h
    intro v k1 H1 tr w1 hb
    obtain ⟨t1, w2⟩ := behind (m := m) w tr ei w1.sub w1.ntb
    have g := h k1 H1 t1 w2
    unfold Back at hb
    by_cases ho : F.own = true
    · rw [if_pos ho] at hb
      rw [gR_t ho] at g
      obtain ⟨p, rfl, hp, kp, r⟩ := hb
      exact g p (h0 p hp) kp r
    · rw [if_neg ho] at hb
      rw [gR_f ho] at g
      exact g v hb
theorem s_call {f : Nat} {F : Df} {x : Str} {p : Pos} (G : Good t Q Tb ca n N X W) (hg : Gl X x) (hf : t.fn f = some x) (hF : Q.defs f = some F) (hio : t.io f = false) (hdb : (x == ("__debug__" : Str)) = false)
    (hs : PA X (e :: es) (tA X.K Tb W ms fs)) (hst : (e :: es).all noStar = true) (hms : ∀ i, ms i = true → m i = true) :
    PE X (.Call (.Name x p) (e :: es) [] pos) (tR X.K Tb W m F.own fun ρ => (fs ρ).bind fun (xs, ρ1) => (callF Q n f xs).bind fun (d, _) => .ok (d, ρ1)) := by
  obtain ⟨ad, fd, ps, hm, hk, hb, hO, h1, h2⟩ := G.ok.fn f x F hf hF
  rw [List.all_cons, Bool.and_eq_true] at hst
  refine (pe_callS hO G.room hg hm hk hb (fun σ => L2N.passAt G.tk σ) hs hdb (star_cons hst.1 es X.env) (plain_all pos hst.2)).weaken fun σ H Qv h => ?_
  have hio' : F.io = false := h1.trans hio
  unfold tR at h
  by_cases ho : F.own = true
  · rw [if_pos ho] at h
    obtain ⟨ρ, k, w, h⟩ := h
    refine ⟨ρ, k, w, pG_mono (pG_bind h) hms fun ds ρ1 k1 H1 t1 w1 g vs hvs => ?_⟩
    refine sp_call (H0 := H) (m := m) hF hio' w1 hvs (fun p => back_none t1) (pG_mono g (fun _ z => z) fun d ρ2 k2 H2 _ _ q => ?_)
    rw [gR_t ho]
    exact q
  · rw [if_neg ho] at h
    obtain ⟨ρ, k, w, h⟩ := h
    refine ⟨ρ, k, w, pG_mono (pG_bind h) hms fun ds ρ1 k1 H1 t1 w1 g vs hvs => ?_⟩
    refine sp_call (H0 := H) (m := m) hF hio' w1 hvs (fun p => back_none t1) (pG_mono g (fun _ z => z) fun d ρ2 k2 H2 _ _ q => ?_)
    rw [gR_f ho]
    exact q

/-- a call of a def that changes the list at its first place -/
theorem s_callIo {f i : Nat} {F : Df} {x y : Str} {p p2 : Pos} (G : Good t Q Tb ca n N X W) (hg : Gl X x) (hf : t.fn f = some x) (hF : Q.defs f = some F) (hio : t.io f = true) (hown : t.own f = false) (hdb : (x == ("__debug__" : Str)) = false)
    (hN : X.N[i]? = some y) (hv : Vis X.env.scope y) (hd : (y == ("__debug__" : Str)) = false) (hc : (y == ("__classdict__" : Str)) = false)
    (hs : PA X es (tA X.K Tb W ms fs)) (hst : es.all noStar = true) (hms : ∀ i, ms i = true → m i = true) (hmi : m i = true) :
    PE X (.Call (.Name x p) (.Name y p2 :: es) [] pos) (tE X.K Tb W m fun ρ => (ownAt ρ i).bind fun _ => (fs ρ).bind fun (xs, ρ1) => (ownAt ρ1 i).bind fun ys => (callF Q n f (.list ys :: xs)).bind fun (d, zs) => .ok (d, ρ1.set i (.own (.list zs)))) := by
  obtain ⟨ad, fd, ps, hm, hk, hb, hO, h1, h2⟩ := G.ok.fn f x F hf hF
  refine (pe_callS hO G.room hg hm hk hb (fun σ => L2N.passAt G.tk σ) (pa_cons (pe_var hN hv hd hc) hs (star_cons rfl es X.env)) hdb (star_cons rfl es X.env) (plain_all pos hst)).weaken fun σ H Qv h => ?_
  have hio' : F.io = true := h1.trans hio
  have how' : ¬ F.own = true := by rw [h2, hown]; exact Bool.false_ne_true
  obtain ⟨ρ, k, w, h⟩ := h
  dsimp only at h
  cases q : ownAt ρ i with
  | bad => rw [q] at h; exact h.elim
  | exc c => exact absurd q (ownAt_noexc c)
  | ok ys0 =>
    rw [q] at h
    obtain ⟨a, ow⟩ := own_of w q
    have h : pG X.K Tb W m σ ρ k H ((fs ρ).bind fun (xs, ρ1) => (ownAt ρ1 i).bind fun ys => (callF Q n f (.list ys :: xs)).bind fun (d, zs) => .ok (d, ρ1.set i (.own (.list zs)))) fun d _ k1 H1 => ∀ v, Dp X.K k1 v d → Qv v H1 := h
    refine ⟨.ref a, ow.2, ρ, k, w, pG_mono (pG_bind h) hms fun ds ρ1 k1 H1 t1 w1 g vs hvs => ?_⟩
    dsimp only at g
    cases q1 : ownAt ρ1 i with
    | bad => rw [q1] at g; exact g.elim
    | exc c => exact absurd q1 (ownAt_noexc c)
    | ok ys =>
      rw [q1] at g
      obtain ⟨b, ob⟩ := own_of w1 q1
      have eab : b = a := by have e1 := ob.2; rw [ow.2] at e1; cases e1; rfl
      subst eab
      have e1 := own_get q1
      have g : pG X.K Tb W m σ ρ1 k1 H1 ((callF Q n f (.list ys :: ds)).bind fun (d, zs) => .ok (d, ρ1.set i (.own (.list zs)))) fun d _ k1 H1 => ∀ v, Dp X.K k1 v d → Qv v H1 := g
      obtain ⟨d0, u0, e0, r0, kb, hb0, nt0⟩ := w1.ownH ob
      rw [e1] at e0
      cases e0
      have hl : (PyData.list ys :: ds).length = F.np := callF_np hF fun z => by rw [z] at g; exact g
      have ea : argS F (.list ys :: ds) = .own (.list ys) :: ds.map .val := by unfold argS; rw [hio']
      have eb : ∀ zs, backS F (.list ys :: ds) zs = .own (.list zs) :: ds.map .val := fun zs => by unfold backS; rw [hio']
      refine ⟨k1, .list ys :: ds, by rw [ea]; exact wf_io w1 kb r0 hvs, by rw [List.length_cons, hvs.lenD, ← List.length_cons (a := PyData.list ys)]; exact hl, hl, ?_⟩
      cases q2 : callF Q n f (.list ys :: ds) with
      | bad => rw [q2] at g; exact g
      | exc c =>
        rw [q2] at g
        refine fun H2 tx => ⟨c, rfl, rfl, g H2 ⟨fun r o hr nt => ?_, tx.2⟩⟩
        rcases tx.1 r o hr nt with z | ⟨j, _, oj⟩
        · exact .inl z
        · rw [ea] at oj
          obtain ⟨_, rfl⟩ := own_io oj
          exact .inr ⟨i, hmi, ob⟩
      | ok r =>
        obtain ⟨d, zs⟩ := r
        rw [q2] at g
        intro v k2 H2 tr w2 hbk
        rw [ea, eb] at tr
        rw [eb] at w2
        have hi : i < ρ1.length := (List.getElem?_eq_some_iff.mp e1).1
        have fr : ∀ r o, r ≠ b → H1 r = some o → (∀ ps, o ≠ .tbl ps) → H2 r = some o := fun r o ne hr nt => (tr.frm r o hr nt).elim id fun ⟨j, _, oj⟩ => absurd (own_io oj).2 ne
        have nw : ∀ r, k2 r ≠ none → k1 r ≠ none ∨ H1 r = none ∨ r = b := fun r hr => by
          rcases tr.new r hr with z | z | ⟨j, _, oj⟩
          · exact .inl z
          · exact .inr (.inl z)
          · exact .inr (.inr (own_io oj).2)
        obtain ⟨b2, g1, g2, us, g3, g4⟩ := w2.own 0 _ rfl
        have eb2 : b = b2 := by simpa using g1
        subst eb2
        have lift : ∀ {j r}, Own σ (ρ1.set i (.own (.list zs))) j r → Own σ ρ1 j r := fun {j r} oo => by
          by_cases z : i = j
          · subst z; exact ⟨⟨_, e1⟩, oo.2⟩
          · obtain ⟨⟨d1, e2⟩, e3⟩ := oo
            rw [List.getElem?_set_ne z] at e2
            exact ⟨⟨d1, e2⟩, e3⟩
        have hdp : Dp X.K k2 v d := by
          unfold Back at hbk
          rw [if_neg how'] at hbk
          exact hbk
        refine g k2 H2 ⟨tr.kk, fun r hr => ?_, fun r o hr nt => ?_, tr.dom, fun j hj => ?_, fun j r oo => lift oo, tr.tb⟩ ⟨w2.sub, w2.ntb, w2.tab, by rw [List.length_set]; exact w1.len, fun j x hj => ?_, fun j x hj => ?_, fun j j' r o1 o2 => w1.dis j j' r (lift o1) (lift o2)⟩ v hdp
        · rcases nw r hr with z | z | rfl
          · exact .inl z
          · exact .inr (.inl z)
          · exact absurd g2 hr
        · by_cases z : r = b
          · subst z; exact .inr ⟨i, hmi, ob⟩
          · exact .inl (fr r o z hr nt)
        · have ne : i ≠ j := fun z => by subst z; rw [hmi] at hj; cases hj
          rw [List.getElem?_set_ne ne]
        · by_cases z : i = j
          · subst z; rw [List.getElem?_set_self hi] at hj; cases hj
          · rw [List.getElem?_set_ne z] at hj
            obtain ⟨v', h1, h2⟩ := w1.val j x hj
            exact ⟨v', h1, dp_mono tr.kk h2⟩
        · by_cases z : i = j
          · subst z; rw [List.getElem?_set_self hi] at hj; cases hj
            exact ⟨b, ob.2, g2, us, g3, g4⟩
          · rw [List.getElem?_set_ne z] at hj
            obtain ⟨r, h1, h2, h3⟩ := w1.own j x hj
            have ne : r ≠ b := fun y => by subst y; exact z (w1.dis i j r ob ⟨⟨x, hj⟩, h1⟩)
            refine ⟨r, h1, ?_, h3.mono tr.kk fun o ho nt => fr r o ne ho nt⟩
            cases y : k2 r with
            | none => rfl
            | some o =>
              rcases nw r (by rw [y]; exact fun z => by cases z) with z | z | z
              · exact absurd h2 z
              · exact absurd z (w1.ownNe ⟨⟨x, hj⟩, h1⟩)
              · exact absurd z ne

/-- x.pop(0) -/
theorem s_pop {i j : Nat} {y mm : Str} {ap cp p2 p3 : Pos} (hmm : mm = "pop") (hln : (ap.endLine == cp.line) = true) (hN : X.N[i]? = some y) (hv : Vis X.env.scope y) (hd : (y == ("__debug__" : Str)) = false) (hc : (y == ("__classdict__" : Str)) = false) (hmi : m i = true) :
    PE X (.Call (.Attribute (.Name y p2) mm ap) [.Constant (.int 0) j p3] [] cp) (tE X.K Tb W m fun ρ => (ownAt ρ i).bind fun ys => match ys with | x :: xs => .ok (x, ρ.set i (.own (.list xs))) | [] => .bad) := by
  subst hmm
  refine (pe_bm PySem.F.plainAttrs_list PySem.F.slot_list_pop PySem.F.type_list_pop mt_popAt (pe_var hN hv hd hc) (pa_cons pe_int pa_nil) (base_of rfl) rfl hln).weaken fun σ H Qv ⟨ρ, k, w, h⟩ => ?_
  dsimp only at h
  cases q : ownAt ρ i with
  | bad => rw [q] at h; exact h.elim
  | exc c => exact absurd q (ownAt_noexc c)
  | ok ys =>
    rw [q] at h
    have e := own_get q
    obtain ⟨a, ow⟩ := own_of w q
    obtain ⟨d0, u0, e0, r0, ka, ha, nt⟩ := w.ownH ow
    rw [e] at e0
    cases e0
    obtain ⟨us, hu, du⟩ := r0
    cases ys with
    | nil => exact h.elim
    | cons x xs =>
      cases du with
      | @cons v vs _ _ dv dvs =>
        refine ⟨.ref a, ow.2, .inl ⟨rfl, _, .of hu⟩, ?_⟩
        refine ⟨a, v :: vs, 0, 0, v, rfl, rfl, hu, by decide, by decide, seqIndex_of (Int.le_refl 0) (by simp only [List.length_cons]; omega), rfl, ?_⟩
        obtain ⟨t1, w1⟩ := own_upd (d := .list xs) (o := .lst vs) w ow hmi (fun ps z => by cases z) ⟨vs, upd_same, dvs⟩
        exact h k _ t1 w1 v dv

/-! ### methods of texts, lists -/
variable {a : Expr} {ma mb : Nat → Bool} {fa : Rho → R (D × Rho)} {mm : Str} {ap cp : Pos}
theorem s_split (hmm : mm = "split") (hln : (ap.endLine == cp.line) = true) (ha : PE X a (tE X.K Tb W ma fa)) (hs : PA X [e] (tA X.K Tb W ms fs)) (hb : noSuper a = true) (hst : noStar e = true)
    (hma : ∀ i, ma i = true → m i = true) (hms : ∀ i, ms i = true → m i = true) :
    PE X (.Call (.Attribute a mm ap) [e] [] cp) (tE X.K Tb W m fun ρ => (fa ρ).bind fun (x, ρ1) => if meOk .split x = true then (fs ρ1).bind fun (xs, ρ2) => (ofOpt (mthD .split x xs)).bind fun z => .ok (z, ρ2) else .bad) := by
  subst hmm
  refine (pe_bm PySem.F.plainAttrs_str PySem.F.slot_str_split PySem.F.type_str_split mt_split ha hs (base_of hb) (by rw [star_cons hst]; rfl) hln (star_cons hst _ _) rfl).weaken fun σ H Qv ⟨ρ, k, w, h⟩ => ⟨ρ, k, w, pG_mono (pG_bind h) hma fun d ρ1 k1 H1 t1 w1 h1 v hv => ?_⟩
  obtain ⟨hk, h1⟩ := pG_if h1
  have ty : tyV X.K "str" v H1 := by
    cases d with
    | str x => rw [dp_str hv]; rfl
    | _ => cases hk
  refine ⟨ty, ρ1, k1, w1, pG_mono (pG_bind h1) hms fun ds ρ2 k2 H2 t2 w2 h2 vs hvs => ?_⟩
  exact (mt_split' w2.sub (dp_mono t2.kk hv) hvs (fin_of w2 h2)).2
theorem s_join (hmm : mm = "join") (hln : (ap.endLine == cp.line) = true) (ha : PE X a (tE X.K Tb W ma fa)) (hs : PA X [e] (tA X.K Tb W ms fs)) (hb : noSuper a = true) (hst : noStar e = true)
    (hma : ∀ i, ma i = true → m i = true) (hms : ∀ i, ms i = true → m i = true) :
    PE X (.Call (.Attribute a mm ap) [e] [] cp) (tE X.K Tb W m fun ρ => (fa ρ).bind fun (x, ρ1) => if meOk .join x = true then (fs ρ1).bind fun (xs, ρ2) => (ofOpt (mthD .join x xs)).bind fun z => .ok (z, ρ2) else .bad) := by
  subst hmm
  refine (pe_bm PySem.F.plainAttrs_str PySem.F.slot_str_join PySem.F.type_str_join mt_join ha hs (base_of hb) (by rw [star_cons hst]; rfl) hln (star_cons hst _ _) rfl).weaken fun σ H Qv ⟨ρ, k, w, h⟩ => ⟨ρ, k, w, pG_mono (pG_bind h) hma fun d ρ1 k1 H1 t1 w1 h1 v hv => ?_⟩
  obtain ⟨hk, h1⟩ := pG_if h1
  have ty : tyV X.K "str" v H1 := by
    cases d with
    | str x => rw [dp_str hv]; rfl
    | _ => cases hk
  refine ⟨ty, ρ1, k1, w1, pG_mono (pG_bind h1) hms fun ds ρ2 k2 H2 t2 w2 h2 vs hvs => ?_⟩
  exact (mt_join' w2.sub (dp_mono t2.kk hv) hvs (fin_of w2 h2)).2
theorem s_index (hmm : mm = "index") (hln : (ap.endLine == cp.line) = true) (ha : PE X a (tE X.K Tb W ma fa)) (hs : PA X [e] (tA X.K Tb W ms fs)) (hb : noSuper a = true) (hst : noStar e = true)
    (hma : ∀ i, ma i = true → m i = true) (hms : ∀ i, ms i = true → m i = true) :
    PE X (.Call (.Attribute a mm ap) [e] [] cp) (tE X.K Tb W m fun ρ => (fa ρ).bind fun (x, ρ1) => if meOk .index x = true then (fs ρ1).bind fun (xs, ρ2) => (ofOpt (mthD .index x xs)).bind fun z => .ok (z, ρ2) else .bad) := by
  subst hmm
  refine (pe_bm PySem.F.plainAttrs_list PySem.F.slot_list_index PySem.F.type_list_index mt_index ha hs (base_of hb) (by rw [star_cons hst]; rfl) hln (star_cons hst _ _) rfl).weaken fun σ H Qv ⟨ρ, k, w, h⟩ => ⟨ρ, k, w, pG_mono (pG_bind h) hma fun d ρ1 k1 H1 t1 w1 h1 v hv => ?_⟩
  obtain ⟨hk, h1⟩ := pG_if h1
  have ty : tyV X.K "list" v H1 := by
    cases d with
    | list x => cases hv with
      | lst g1 g2 => exact .inl ⟨rfl, _, w1.sub.seq g1⟩
    | _ => cases hk
  refine ⟨ty, ρ1, k1, w1, pG_mono (pG_bind h1) hms fun ds ρ2 k2 H2 t2 w2 h2 vs hvs => ?_⟩
  exact (mt_index' w2.sub (dp_mono t2.kk hv) hvs (fin_of w2 h2)).2

/-! ### dicts with texts as keys -/
theorem look_kv {K : PySem.W.Frag} {k : Hp} {s : Str} : ∀ {ks : List (Key × V)} {kvs : List (D × D)}, KvRep K k ks kvs →
    (∀ d, lookS kvs (.str s) = some d → ∃ v, valV ks (.inr s) = some v ∧ Dp K k v d) ∧ (lookS kvs (.str s) = none → valV ks (.inr s) = none)
  | _, _, .nil => ⟨fun d h => (by unfold lookS at h; cases h), fun _ => rfl⟩
  | _, _, .cons (s := s') (v := v) (d := d') (r := r) (t := t) hd ht => by
    have ih := look_kv (s := s) ht
    have e : PyData.eqv (.str s') (.str s) = (s' == s) := rfl
    by_cases hs : s' = s
    · subst hs
      have e2 : lookS ((.str s', d') :: t) (.str s') = some d' := by unfold lookS; rw [e]; simp
      refine ⟨fun d h => ?_, fun h => ?_⟩
      · rw [e2] at h; cases h
        exact ⟨v, valV_pos rfl, hd⟩
      · rw [e2] at h; cases h
    · have e2 : lookS ((.str s', d') :: t) (.str s) = lookS t (.str s) := by
        conv => lhs; unfold lookS
        rw [e, beq_eq_false_iff_ne.mpr hs]; rfl
      have e3 : valV ((Sum.inr s', v) :: r) (.inr s) = valV r (.inr s) := valV_neg fun z => hs (Sum.inr.inj z)
      rw [e2, e3]
      exact ih
theorem any_kv {K : PySem.W.Frag} {k : Hp} {s : Str} : ∀ {ks : List (Key × V)} {kvs : List (D × D)}, KvRep K k ks kvs → (kvs.any fun p => PyData.eqv p.1 (.str s)) = ks.any fun kv => decide (kv.1 = .inr s)
  | _, _, .nil => rfl
  | _, _, .cons (s := s') _ t => by
    rw [List.any_cons, List.any_cons, any_kv t]
    congr 1
    show (s' == s) = decide ((Sum.inr s' : Key) = .inr s)
    by_cases h : s' = s
    · subst h; simp
    · rw [beq_eq_false_iff_ne.mpr h]
      exact (decide_eq_false fun z => h (Sum.inr.inj z)).symm
theorem map_kv {K : PySem.W.Frag} {k : Hp} {s : Str} {v : V} {d : D} (r : Dp K k v d) : ∀ {ks : List (Key × V)} {kvs : List (D × D)}, KvRep K k ks kvs →
    KvRep K k (ks.map fun kv => if kv.1 = .inr s then (kv.1, v) else kv) (kvs.map fun p => if PyData.eqv p.1 (.str s) = true then (p.1, d) else p)
  | _, _, .nil => .nil
  | _, _, .cons (s := s') h t => by
    rw [List.map_cons, List.map_cons]
    by_cases e : s' = s
    · rw [if_pos (show (Sum.inr s' : Key) = .inr s by rw [e]), if_pos (show PyData.eqv (.str s') (.str s) = true by show (s' == s) = true; rw [e]; simp)]
      exact .cons r (map_kv r t)
    · rw [if_neg (fun z => e (Sum.inr.inj z)), if_neg (show ¬ PyData.eqv (.str s') (.str s) = true by show ¬ (s' == s) = true; rw [beq_eq_false_iff_ne.mpr e]; exact Bool.false_ne_true)]
      exact .cons h (map_kv r t)
theorem app_kv {K : PySem.W.Frag} {k : Hp} : ∀ {ks ls : List (Key × V)} {kvs lvs : List (D × D)}, KvRep K k ks kvs → KvRep K k ls lvs → KvRep K k (ks ++ ls) (kvs ++ lvs)
  | _, _, _, _, .nil, h => h
  | _, _, _, _, .cons h t, g => .cons h (app_kv t g)
theorem put_kv {K : PySem.W.Frag} {k : Hp} {s : Str} {v : V} {d : D} (r : Dp K k v d) {ks : List (Key × V)} {kvs : List (D × D)} (h : KvRep K k ks kvs) : KvRep K k (putK ks (.inr s) v) (putS kvs (.str s) d) := by
  unfold putK putS
  rw [any_kv (s := s) h]
  by_cases e : (ks.any fun kv => decide (kv.1 = .inr s)) = true
  · rw [if_pos e, if_pos e]
    exact map_kv r h
  · rw [if_neg e, if_neg e]
    exact app_kv h (.cons r .nil)
theorem kv_len {K : PySem.W.Frag} {k : Hp} : ∀ {ks : List (Key × V)} {kvs : List (D × D)}, KvRep K k ks kvs → ks.length = kvs.length
  | _, _, .nil => rfl
  | _, _, .cons _ t => by rw [List.length_cons, List.length_cons, kv_len t]
variable {y : Str} {i : Nat} {p2 : Pos}
theorem dictAt_get {ρ : Rho} {i : Nat} {kvs : List (D × D)} (h : dictAt ρ i = .ok kvs) : ρ[i]? = some (.own (.dict kvs)) := by
  unfold dictAt at h
  split at h
  · cases h; assumption
  · cases h
theorem dictAt_noexc {ρ : Rho} {i : Nat} (c : Nat) : dictAt ρ i ≠ .exc c := fun h => by
  unfold dictAt at h
  split at h <;> cases h
/-- the dict's place, and what it holds -/
theorem dict_of {σ : L2.St} {ρ : Rho} {k H : Hp} {kvs : List (D × D)} (w : WF X.K Tb σ ρ k H) (h : dictAt ρ i = .ok kvs) : ∃ a ks, Own σ ρ i a ∧ H a = some (.dK ks) ∧ KvRep X.K k ks kvs := by
  have e := dictAt_get h
  obtain ⟨a, g, ka, ks, g2, g3⟩ := w.own i _ e
  exact ⟨a, ks, ⟨⟨_, e⟩, g⟩, g2, g3⟩
theorem pG_dict {α : Type} {σ : L2.St} {ρ : Rho} {k H : Hp} {g : List (D × D) → R (α × Rho)} {G : α → Rho → Hp → Hp → Prop} (h : pG X.K Tb W m σ ρ k H ((dictAt ρ i).bind g) G) : ∃ kvs, dictAt ρ i = .ok kvs ∧ pG X.K Tb W m σ ρ k H (g kvs) G := by
  cases e : dictAt ρ i with
  | bad => rw [e] at h; exact h.elim
  | exc c => exact absurd e (dictAt_noexc c)
  | ok kvs => rw [e] at h; exact ⟨kvs, rfl, h⟩
theorem hu1 {A : Around} (hr : Room n A) : A.units + 1 < cLine := by have := hr.un; omega
/-- x[k], x an own dict -/
theorem s_dget (hr : Room n X.A) (hN : X.N[i]? = some y) (hv : Vis X.env.scope y) (hd : (y == ("__debug__" : Str)) = false) (hc : (y == ("__classdict__" : Str)) = false) (ha : PE X a (tE X.K Tb W ma fa)) (hs : plainIx a = true) (hma : ∀ i, ma i = true → m i = true) :
    PE X (.Subscript (.Name y p2) a pos) (tE X.K Tb W m fun ρ => (dictAt ρ i).bind fun _ => (fa ρ).bind fun (z, ρ1) => (dictAt ρ1 i).bind fun kvs => if isStr z = true then (ofOpt (lookS kvs z)).bind fun v => .ok (v, ρ1) else .bad) := by
  refine (pe_dget (hu1 hr) (pe_var hN hv hd hc) ha (plainIx_of hs)).weaken fun σ H Qv ⟨ρ, k, w, h⟩ => ?_
  obtain ⟨_, e0, h⟩ := pG_dict h
  obtain ⟨b, _, ow, _, _⟩ := dict_of w e0
  refine ⟨_, ow.2, ρ, k, w, pG_mono (pG_bind h) hma fun d ρ1 k1 H1 t1 w1 h1 v hv => ?_⟩
  obtain ⟨kvs, e1, h1⟩ := pG_dict h1
  obtain ⟨b', ks, ow', g2, g3⟩ := dict_of w1 e1
  have eb : b = b' := by have z := ow'.2; rw [ow.2] at z; cases z; rfl
  subst eb
  obtain ⟨hst, h1⟩ := pG_if h1
  cases d with
  | str s =>
    cases q : lookS kvs (.str s) with
    | none => rw [q] at h1; exact h1.elim
    | some z =>
      rw [q] at h1
      obtain ⟨u, e2, e3⟩ := (look_kv (s := s) g3).1 z q
      refine ⟨b, u, rfl, ?_, pG_ok h1 w1 u e3⟩
      rw [dp_str hv, ← e2]
      exact DGet.k (k := .inr s) g2
  | _ => cases hst
theorem s_dgetN (hr : Room n X.A) (hmm : mm = "get") (hln : (ap.endLine == cp.line) = true) (hN : X.N[i]? = some y) (hv : Vis X.env.scope y) (hd : (y == ("__debug__" : Str)) = false) (hc : (y == ("__classdict__" : Str)) = false) (ha : PE X a (tE X.K Tb W ma fa)) (hs : noStar a = true) (hma : ∀ i, ma i = true → m i = true) :
    PE X (.Call (.Attribute (.Name y p2) mm ap) [a] [] cp) (tE X.K Tb W m fun ρ => (dictAt ρ i).bind fun _ => (fa ρ).bind fun (z, ρ1) => (dictAt ρ1 i).bind fun kvs => if isStr z = true then .ok ((lookS kvs z).getD .none, ρ1) else .bad) := by
  subst hmm
  refine (pe_dget1 (hu1 hr) (pe_var hN hv hd hc) ha ⟨base_of rfl, by rw [star_cons hs]; rfl, hln, by rw [star_cons hs]; rfl⟩).weaken fun σ H Qv ⟨ρ, k, w, h⟩ => ?_
  obtain ⟨_, e0, h⟩ := pG_dict h
  obtain ⟨b, ks0, ow, g0, _⟩ := dict_of w e0
  refine ⟨_, ow.2, b, rfl, .inl ⟨ks0, .inl g0⟩, ρ, k, w, pG_mono (pG_bind h) hma fun d ρ1 k1 H1 t1 w1 h1 v hv => ?_⟩
  obtain ⟨kvs, e1, h1⟩ := pG_dict h1
  obtain ⟨b', ks, ow', g2, g3⟩ := dict_of w1 e1
  have eb : b = b' := by have z := ow'.2; rw [ow.2] at z; cases z; rfl
  subst eb
  obtain ⟨hst, h1⟩ := pG_if h1
  cases d with
  | str s =>
    rw [dp_str hv]
    refine ⟨_, DGet.k (k := .inr s) g2, ?_⟩
    cases q : lookS kvs (.str s) with
    | none =>
      rw [q] at h1
      rw [(look_kv (s := s) g3).2 q]
      exact pG_ok h1 w1 _ .non
    | some z =>
      rw [q] at h1
      obtain ⟨u, e2, e3⟩ := (look_kv (s := s) g3).1 z q
      rw [e2]
      exact pG_ok h1 w1 u e3
  | _ => cases hst
theorem s_dgetD {b : Expr} {fb : Rho → R (D × Rho)} (hr : Room n X.A) (hmm : mm = "get") (hln : (ap.endLine == cp.line) = true) (hN : X.N[i]? = some y) (hv : Vis X.env.scope y) (hd : (y == ("__debug__" : Str)) = false) (hc : (y == ("__classdict__" : Str)) = false)
    (ha : PE X a (tE X.K Tb W ma fa)) (hs : noStar a = true) (hb : PE X b (tE X.K Tb W mb fb)) (hs2 : noStar b = true) (hma : ∀ i, ma i = true → m i = true) (hmb : ∀ i, mb i = true → m i = true) :
    PE X (.Call (.Attribute (.Name y p2) mm ap) [a, b] [] cp) (tE X.K Tb W m fun ρ => (dictAt ρ i).bind fun _ => (fa ρ).bind fun (z, ρ1) => (fb ρ1).bind fun (u, ρ2) => (dictAt ρ2 i).bind fun kvs => if isStr z = true then .ok ((lookS kvs z).getD u, ρ2) else .bad) := by
  subst hmm
  refine (pe_dget2 (hu1 hr) (pe_var hN hv hd hc) ha hb ⟨base_of rfl, by rw [star_cons hs, star_cons hs2]; rfl, hln, by rw [star_cons hs, star_cons hs2]; rfl⟩).weaken fun σ H Qv ⟨ρ, k, w, h⟩ => ?_
  obtain ⟨_, e0, h⟩ := pG_dict h
  obtain ⟨b, ks0, ow, g0, _⟩ := dict_of w e0
  refine ⟨_, ow.2, b, rfl, .inl ⟨ks0, .inl g0⟩, ρ, k, w, pG_mono (pG_bind h) hma fun d ρ1 k1 H1 t1 w1 h1 v hv => ?_⟩
  refine ⟨ρ1, k1, w1, pG_mono (pG_bind h1) hmb fun d2 ρ2 k2 H2 t2 w2 h2 v2 hv2 => ?_⟩
  obtain ⟨kvs, e1, h2⟩ := pG_dict h2
  obtain ⟨b', ks, ow', g2, g3⟩ := dict_of w2 e1
  have eb : b = b' := by have z := ow'.2; rw [ow.2] at z; cases z; rfl
  subst eb
  obtain ⟨hst, h2⟩ := pG_if h2
  cases d with
  | str s =>
    rw [dp_str hv]
    refine ⟨_, DGet.k (k := .inr s) g2, ?_⟩
    cases q : lookS kvs (.str s) with
    | none =>
      rw [q] at h2
      rw [(look_kv (s := s) g3).2 q]
      exact pG_ok h2 w2 _ hv2
    | some z =>
      rw [q] at h2
      obtain ⟨u, e2, e3⟩ := (look_kv (s := s) g3).1 z q
      rw [e2]
      exact pG_ok h2 w2 u e3
  | _ => cases hst
theorem i_din {σ : L2.St} {H : Hp} {Qv : VK} (hN : X.N[i]? = some y) (hma : ∀ i, ma i = true → m i = true)
    (h : tE X.K Tb W m (fun ρ => (fa ρ).bind fun (z, ρ1) => (dictAt ρ1 i).bind fun kvs => if isStr z = true then .ok (.bool (lookS kvs z).isSome, ρ1) else .bad) σ H Qv) :
    tDIn (tE X.K Tb W ma fa) (tVar i) σ H Qv := by
  obtain ⟨ρ, k, w, h⟩ := h
  refine ⟨ρ, k, w, pG_mono (pG_bind h) hma fun d ρ1 k1 H1 t1 w1 h1 v hv => ?_⟩
  obtain ⟨kvs, e1, h1⟩ := pG_dict h1
  obtain ⟨b, ks, ow, g2, g3⟩ := dict_of w1 e1
  obtain ⟨hst, h1⟩ := pG_if h1
  cases d with
  | str s =>
    rw [dp_str hv]
    refine ⟨_, ow.2, b, _, rfl, DGet.k (k := .inr s) g2, ?_⟩
    have e : (valV ks (.inr s)).isSome = (lookS kvs (.str s)).isSome := by
      cases q : lookS kvs (.str s) with
      | none => rw [(look_kv (s := s) g3).2 q]; rfl
      | some z =>
        obtain ⟨u, e2, _⟩ := (look_kv (s := s) g3).1 z q
        rw [e2]; rfl
    rw [e]
    exact pG_ok h1 w1 _ (.bl _)
  | _ => cases hst
theorem s_din (hr : Room n X.A) (hN : X.N[i]? = some y) (hv : Vis X.env.scope y) (hd : (y == ("__debug__" : Str)) = false) (hc : (y == ("__classdict__" : Str)) = false) (ha : PE X a (tE X.K Tb W ma fa)) (hma : ∀ i, ma i = true → m i = true) :
    PE X (.Compare a [.In] [.Name y p2] pos) (tE X.K Tb W m fun ρ => (fa ρ).bind fun (z, ρ1) => (dictAt ρ1 i).bind fun kvs => if isStr z = true then .ok (.bool (lookS kvs z).isSome, ρ1) else .bad) :=
  (pe_cmp (pc_din (hu1 hr) ha (pe_var hN hv hd hc)) rfl).weaken fun σ H Qv h => i_din hN hma h
theorem t_din (hr : Room n X.A) (hN : X.N[i]? = some y) (hv : Vis X.env.scope y) (hd : (y == ("__debug__" : Str)) = false) (hc : (y == ("__classdict__" : Str)) = false) (ha : PE X a (tE X.K Tb W ma fa)) (hma : ∀ i, ma i = true → m i = true) :
    PT X (.Compare a [.In] [.Name y p2] pos) (tT X.K Tb W m fun ρ => (fa ρ).bind fun (z, ρ1) => (dictAt ρ1 i).bind fun kvs => if isStr z = true then .ok (.bool (lookS kvs z).isSome, ρ1) else .bad) :=
  (pt_cmp (pc_din (hu1 hr) ha (pe_var hN hv hd hc)) rfl).weaken (bool_test fun σ H Qv h => i_din hN hma h)
/-- {} -/
theorem f_dict0 : PE X (.Dict [] [] pos) (tF X.K Tb W m fun ρ => .ok (.dict [], ρ)) := by
  refine pe_dnewK.weaken fun σ H Qv ⟨ρ, k, w, h⟩ p hp => ?_
  have px := Px.hide w.sub hp (o := .dK [])
  exact pG_okx h w px p hp (sub_none w.sub hp) ⟨[], upd_same, .nil⟩

/-! a written dict -/
inductive DisK : List Str → List (Option Expr) → Prop where
  | nil : DisK [] []
  | cons {s : Str} {ks : List Str} {r : List (Option Expr)} {j : Nat} {p : Pos} : DisK ks r → DisK (s :: ks) (some (.Constant (.str s) j p) :: r)
/-- the values' readings, one by one -/
inductive DisV (X : Cx) (Tb : Tbs) (W : XW) (m : Nat → Bool) : (Rho → R (List D × Rho)) → List Expr → List TE → Prop where
  | nil : DisV X Tb W m (fun ρ => .ok ([], ρ)) [] []
  | cons {a : Expr} {es : List Expr} {ts : List TE} {fa : Rho → R (D × Rho)} {fs : Rho → R (List D × Rho)} : PE X a (tE X.K Tb W m fa) → DisV X Tb W m fs es ts →
      DisV X Tb W m (fun ρ => (fa ρ).bind fun (x, ρ1) => (fs ρ1).bind fun (xs, ρ2) => .ok (x :: xs, ρ2)) (a :: es) (tE X.K Tb W m fa :: ts)
theorem dis_pps {ks : List Str} {keys : List (Option Expr)} (hk : DisK ks keys) : ∀ {fs : Rho → R (List D × Rho)} {vals : List Expr} {ts : List TE}, DisV X Tb W m fs vals ts → ks.length = vals.length → PPs X pos keys vals ((ks.map fun s => tC (.str s)).zip ts) := by
  induction hk with
  | nil => intro fs vals ts hv hl; cases hv with
    | nil => exact pps_nil
    | cons _ _ => cases hl
  | cons _ ih => intro fs vals ts hv hl; cases hv with
    | nil => cases hl
    | cons h1 h2 => exact pps_cons pe_str h1 (ih h2 (by simpa using hl))
theorem dis_read {ks : List Str} {fs : Rho → R (List D × Rho)} {vals : List Expr} {ts : List TE} (hv : DisV X Tb W m fs vals ts) : ∀ {ks : List Str} {σ : L2.St} {ρ : Rho} {k H : Hp} {G : List (V × V) → Hp → Prop}, ks.length = ts.length → WF X.K Tb σ ρ k H →
    pG X.K Tb W m σ ρ k H (fs ρ) (fun ds _ k1 H1 => ∀ vs, DpAll X.K k1 vs ds → G ((ks.map V.str).zip vs) H1) → tPairs ((ks.map fun s => tC (.str s)).zip ts) σ H G := by
  induction hv with
  | nil =>
    intro ks σ ρ k H G hl w h
    cases ks with
    | nil => exact pG_ok h w [] .nil
    | cons _ _ => cases hl
  | @cons a es ts fa fs h1 h2 ih =>
    intro ks σ ρ k H G hl w h
    cases ks with
    | nil => cases hl
    | cons s ks =>
      refine ⟨ρ, k, w, pG_mono (pG_bind h) (fun _ z => z) fun d ρ1 k1 H1 t1 w1 g v hv => ?_⟩
      refine ih (by simpa using hl) w1 (pG_mono (pG_bind g) (fun _ z => z) fun ds ρ2 k2 H2 t2 w2 g2 vs hvs => ?_)
      exact pG_ok g2 w2 (v :: vs) (.cons (dp_mono t2.kk hv) hvs)
theorem dis_len {fs : Rho → R (List D × Rho)} {vals : List Expr} {ts : List TE} (hv : DisV X Tb W m fs vals ts) : vals.length = ts.length := by
  induction hv with
  | nil => rfl
  | cons _ _ ih => rw [List.length_cons, List.length_cons, ih]
theorem disk_len {ks : List Str} {keys : List (Option Expr)} (hk : DisK ks keys) : ks.length = keys.length ∧ keys.all (·.isSome) = true := by
  induction hk with
  | nil => exact ⟨rfl, rfl⟩
  | cons _ ih => exact ⟨by rw [List.length_cons, List.length_cons, ih.1], by rw [List.all_cons, ih.2]; rfl⟩
theorem fold_kv {K : PySem.W.Frag} {k : Hp} : ∀ {ks : List Str} {vs : List V} {ds : List D} {acc : List (Key × V)} {bcc : List (D × D)}, DpAll K k vs ds → KvRep K k acc bcc →
    KvRep K k (((ks.zip vs).map fun p => ((Sum.inr p.1 : Key), p.2)).foldl (fun acc kv => putK acc kv.1 kv.2) acc) ((ks.zip ds).foldl (fun acc p => putS acc (.str p.1) p.2) bcc)
  | [], _, _, _, _, _, h => by simpa using h
  | _ :: _, _, _, _, _, .nil, h => by simpa using h
  | s :: ks, _, _, _, _, .cons h1 h2, h => by
    simp only [List.zip_cons_cons, List.map_cons, List.foldl_cons]
    exact fold_kv h2 (put_kv h1 h)
theorem f_dict {ks : List Str} {keys : List (Option Expr)} {vals : List Expr} {ts : List TE} (hk : DisK ks keys) (hv : DisV X Tb W m fs vals ts) (hl : ks.length = vals.length) (h0 : keys ≠ []) (h15 : ks.length ≤ 15) :
    PE X (.Dict keys vals pos) (tF X.K Tb W m fun ρ => (fs ρ).bind fun (xs, ρ1) => (ofOpt (mkDict ks xs)).bind fun kvs => .ok (.dict kvs, ρ1)) := by
  obtain ⟨e1, e2⟩ := disk_len hk
  refine (pe_disp (dis_pps hk hv hl) e2 (e1.symm.trans hl) h0 (by rw [← e1]; exact h15)).weaken fun σ H Qv ⟨ρ, k, w, h⟩ p hp => ?_
  have px := Px.hide w.sub hp (o := .dK [])
  have w0 := w.px px
  have hnot : ∀ i, ¬ Own σ ρ i p := fun i o => w.ownNe o hp
  dsimp only at h
  refine dis_read (ks := ks) hv (hl.trans (dis_len hv)) w0 ?_
  cases e : fs ρ with
  | bad => rw [e] at h; exact h
  | exc c => rw [e] at h; exact fun H2 u => h H2 (u.after px.tr)
  | ok z =>
    obtain ⟨ds, ρ1⟩ := z
    rw [e] at h
    intro k1 H1 t1 w1 vs hvs
    have hH1 : H1 p = some (.dK []) := (t1.frm p _ upd_same (fun ps z => by cases z)).elim id fun ⟨i, _, o⟩ => absurd o (hnot i)
    have hk1 : k1 p = none := by
      cases z : k1 p with
      | none => rfl
      | some x =>
        rcases t1.new p (by rw [z]; exact fun z => by cases z) with q | q | ⟨i, _, o⟩
        · exact absurd (sub_none w.sub hp) q
        · rw [upd_same] at q; cases q
        · exact absurd o (hnot i)
    have g : pG X.K Tb W m σ ρ k H ((ofOpt (mkDict ks ds)).bind fun kvs => .ok (.dict kvs, ρ1)) fun d _ k1 H1 => ∀ p, H p = none → k1 p = none → OwnRep X.K k1 H1 p d → Qv (.ref p) H1 := h
    by_cases hc : ks.length = ds.length ∧ ks.length ≤ 15
    · have em : mkDict ks ds = some ((ks.zip ds).foldl (fun acc p => putS acc (.str p.1) p.2) []) := by unfold mkDict; rw [if_pos hc]
      rw [em] at g
      have hlv : ks.length = vs.length := hc.1.trans hvs.lenD.symm
      refine ⟨hH1, (ks.zip vs).map fun q => ((Sum.inr q.1 : Key), q.2), ?_, ?_, ?_⟩
      · rw [List.map_map]
        have : ∀ (ks : List Str) (vs : List V), (ks.map V.str).zip vs = (ks.zip vs).map ((fun kv => (kV kv.1, kv.2)) ∘ fun q => ((Sum.inr q.1 : Key), q.2)) := by
          intro ks
          induction ks with
          | nil => intro vs; rfl
          | cons s ks ih => intro vs; cases vs with
            | nil => rfl
            | cons v vs => simp only [List.map_cons, List.zip_cons_cons, ih vs]; rfl
        exact this ks vs
      · rw [List.length_map, List.length_zip]; omega
      · have rep : KvRep X.K k1 (mergeK [] ((ks.zip vs).map fun q => ((Sum.inr q.1 : Key), q.2))) ((ks.zip ds).foldl (fun acc p => putS acc (.str p.1) p.2) []) := fold_kv hvs .nil
        have same : Same k1 (upd H1 p (.dK (mergeK [] ((ks.zip vs).map fun q => ((Sum.inr q.1 : Key), q.2))))) := fun b o hb => by
          have ne : b ≠ p := fun z => by subst z; rw [hk1] at hb; cases hb
          rw [upd_ne ne]; exact w1.sub b o hb
        have hown1 : ∀ i q, Own σ ρ1 i q → q ≠ p := fun i q o z => by subst z; exact hnot i (t1.own _ _ o)
        have tb : Tabs Tb (upd H1 p (.dK (mergeK [] ((ks.zip vs).map fun q => ((Sum.inr q.1 : Key), q.2))))) := fun q hq => by
          obtain ⟨ps, g1, g2, g3⟩ := w1.tab q hq
          have ne : q.1 ≠ p := fun z => by rw [z, hH1] at g1; cases g1
          refine ⟨ps, by rw [upd_ne ne]; exact g1, g2, fun pos cv hc => ?_⟩
          obtain ⟨c, f1, f2⟩ := g3 pos cv hc
          have ne2 : c ≠ p := fun z => by rw [z, hH1] at f2; cases f2
          exact ⟨c, f1, by rw [upd_ne ne2]; exact f2⟩
        refine g k1 _ ⟨t1.kk, fun b hb => ?_, fun b o hb nt => ?_, fun b hb => ?_, t1.slt, t1.own, fun _ => tb⟩ ⟨same, w1.ntb, tb, w1.len, w1.val, fun i d hi => ?_, w1.dis⟩ p hp hk1 ⟨_, upd_same, rep⟩
        · rcases t1.new b hb with q | q | q
          · exact .inl q
          · refine .inr (.inl ?_)
            have ne : b ≠ p := fun z => by subst z; rw [upd_same] at q; cases q
            rw [upd_ne ne] at q; exact q
          · exact .inr (.inr q)
        · have ne : b ≠ p := fun z => by subst z; rw [hp] at hb; cases hb
          rcases t1.frm b o (by rw [upd_ne ne]; exact hb) nt with q | q
          · exact .inl (by rw [upd_ne ne]; exact q)
          · exact .inr q
        · by_cases z : b = p
          · subst z; rw [upd_same]; exact fun z => by cases z
          · rw [upd_ne z]; exact t1.dom b (by rw [upd_ne z]; exact hb)
        · obtain ⟨r, g1, g2, g3⟩ := w1.own i d hi
          refine ⟨r, g1, g2, g3.mono (fun _ _ h => h) fun o ho _ => ?_⟩
          rw [upd_ne (hown1 i r ⟨⟨d, hi⟩, g1⟩)]; exact ho
    · have em : mkDict ks ds = none := by unfold mkDict; rw [if_neg hc]
      rw [em] at g
      exact g.elim
/-- {..}[k] -/
theorem s_dix {ks : List Str} {keys : List (Option Expr)} {vals : List Expr} (hr : Room n X.A) (hd : PE X (.Dict keys vals p2) (tF X.K Tb W ms fun ρ => (fs ρ).bind fun (xs, ρ1) => (ofOpt (mkDict ks xs)).bind fun kvs => .ok (.dict kvs, ρ1)))
    (ha : PE X a (tE X.K Tb W ma fa)) (hs : plainIx a = true) (hma : ∀ i, ma i = true → m i = true) (hms : ∀ i, ms i = true → m i = true) :
    PE X (.Subscript (.Dict keys vals p2) a pos) (tE X.K Tb W m fun ρ => (fs ρ).bind fun (xs, ρ1) => (ofOpt (mkDict ks xs)).bind fun kvs => (fa ρ1).bind fun (z, ρ2) => if isStr z = true then (ofOpt (lookS kvs z)).bind fun v => .ok (v, ρ2) else .bad) := by
  refine (pe_dget (hu1 hr) hd ha (plainIx_of hs)).weaken fun σ H Qv ⟨ρ, k, w, h⟩ => ⟨ρ, k, w, ?_⟩
  dsimp only at h
  have h' : pG X.K Tb W m σ ρ k H (((fs ρ).bind fun (xs, ρ1) => (ofOpt (mkDict ks xs)).bind fun kvs => (R.ok (PyData.dict kvs, ρ1) : R (D × Rho))).bind fun (d, ρ1) => match d with
      | PyData.dict kvs => (fa ρ1).bind fun (z, ρ2) => if isStr z = true then (ofOpt (lookS kvs z)).bind fun v => .ok (v, ρ2) else .bad
      | _ => .bad) fun d _ k1 H1 => ∀ v, Dp X.K k1 v d → Qv v H1 := by
    rw [R.bind_assoc]
    refine cast (congrArg (fun r => pG X.K Tb W m σ ρ k H r fun d _ k1 H1 => ∀ v, Dp X.K k1 v d → Qv v H1) ?_) h
    cases fs ρ with
    | bad => rfl
    | exc c => rfl
    | ok q =>
      obtain ⟨xs, ρ1⟩ := q
      show (ofOpt (mkDict ks xs)).bind _ = R.bind (R.bind (ofOpt (mkDict ks xs)) _) _
      cases mkDict ks xs <;> rfl
  refine pG_mono (pG_bind h') hms fun d ρ1 k1 H1 t1 w1 h1 p hp kp ho => ?_
  cases d with
  | dict kvs =>
    obtain ⟨ks', g2, g3⟩ := ho
    have hnot : ∀ i, ¬ Own σ ρ1 i p := fun i o => w.ownNe (t1.own _ _ o) hp
    refine ⟨ρ1, k1, w1, pG_mono (pG_bind h1) hma fun z ρ2 k2 H2 t2 w2 h2 v hv => ?_⟩
    have e2 : H2 p = some (.dK ks') := (t2.frm p _ g2 (fun ps z => by cases z)).elim id fun ⟨i, _, o⟩ => absurd o (hnot i)
    obtain ⟨hst, h2⟩ := pG_if h2
    cases z with
    | str s =>
      cases q : lookS kvs (.str s) with
      | none => rw [q] at h2; exact h2.elim
      | some z =>
        rw [q] at h2
        obtain ⟨u, e3, e4⟩ := (look_kv (s := s) g3).1 z q
        refine ⟨p, u, rfl, ?_, pG_ok h2 w2 u (dp_mono t2.kk e4)⟩
        rw [dp_str hv, ← e3]
        exact DGet.k (k := .inr s) e2
    | _ => cases hst
  | _ => exact h1.elim
end
end Fo

set_option Elab.async false
set_option linter.all false
set_option maxRecDepth 100000
set_option maxHeartbeats 4000000
/-! SemB5: targets; what is walked. -/
namespace PySem
open W
set_option maxHeartbeats 1000000 in
theorem fo_meets_enumB {v : Value} {o : Obj} {H : Heap → Prop} (B : Begins v o H) :
    Meets (Builtin.«enumerate.__new__» ⟨[.type "enumerate", v], []⟩) (fun _ R s => H s.heap ∧
      R (.ok (.ret (.ref (s.heap.push o).objs.size))) { s with heap := (s.heap.push o).push { cls := .type "enumerate", data := .fields #[.none, .bool false, .ref s.heap.objs.size, rawInt 0, .none, .none] } }) :=
  .of_wp fun prog w A R s h => by
    obtain ⟨hp, g, d, tk, os⟩ := s; obtain ⟨h1, h⟩ := h
    have hsub := sub_enumerate
    have q1 : ∀ {A' : Around} {E : Value → Shared → Prop} {Q : Value → Shared → Prop}, Q (.ref hp.objs.size) ⟨hp.push o, g, d, tk, os⟩ → wpAny (model prog w) A' (pyIter v) Q E ⟨hp, g, d, tk, os⟩ :=
      fun q => B.iter prog w _ _ ⟨hp, g, d, tk, os⟩ _ h1 q
    wp_walk using q1
    refine wpAny_stack_any fun st => wpAny_pure ?_
    split
    · rename_i c _ _ _ _ _
      cases (c == Value.type "enumerate")
      · wp_walk using q1
        exact ⟨_, rfl, h⟩
      · wp_walk using q1
        exact ⟨_, rfl, h⟩
    · wp_walk using q1
      exact ⟨_, rfl, h⟩
theorem fo_call_enumB {prog : Program} {w : World} {A : Around} {E : Value → Shared → Prop} {s : Shared} {v : Value} {o : Obj} {H : Heap → Prop} {Q : Value → Shared → Prop} (B : Begins v o H) (h1 : H s.heap)
    (h : ∀ h', IsEnum h' (s.heap.objs.size + 1) s.heap.objs.size 0 .none → h'.get? s.heap.objs.size = some o → h'.objs.size = s.heap.objs.size + 2 →
      (∀ b o, s.heap.get? b = some o → h'.get? b = some o) → Q (.ref (s.heap.objs.size + 1)) { s with heap := h' }) :
    wpAny (model prog w) A (call (.type "enumerate") [v]) Q E s := by
  refine callType_new F.called_enumerate (by decide) (F.typeCall_enumerate_1 _) (F.newCall_enumerate_1 _) (fun obj => F.args_object_init_2 obj _) F.entry_enumerate_new
    (fo_meets_enumB B) ⟨h1, ?_⟩
  have hz : (s.heap.push o).objs.size = s.heap.objs.size + 1 := Heap.size_push ..
  show _ ∧ _
  rw [hz]
  have he : IsEnum ((s.heap.push o).push { cls := .type "enumerate", data := .fields #[.none, .bool false, .ref s.heap.objs.size, rawInt 0, .none, .none] }) (s.heap.objs.size + 1) s.heap.objs.size 0 .none := by
    have := Heap.get?_push_size (s.heap.push o) (o := { cls := .type "enumerate", data := .fields #[.none, .bool false, .ref s.heap.objs.size, rawInt 0, .none, .none] }) rfl
    rw [hz] at this; exact this
  refine ⟨⟨_, he, rfl⟩, h _ he (Heap.get?_push_of_some _ (Heap.get?_push_size _ B.free)) (by rw [Heap.size_push, hz]) fun b o x => Heap.get?_push_of_some _ (Heap.get?_push_of_some _ x)⟩
theorem fo_enum_endT {prog : Program} {w : World} {A : Around} {E : Value → Shared → Prop} {s : Shared} {e it l : Addr} {i : Nat} {items : Array Value} {old : Value} {k : Int} {Q : Option Value → Shared → Prop} (hh : A.handled = none)
    (he : IsEnum s.heap e it k old) (hit : s.heap.IsTupleIter it l i) (hl : s.heap.IsTuple l items) (hx : items[i]? = none)
    (hQ : ∀ h', Heap.ExtBut it s.heap h' → Q none { s with heap := h' }) : wpAny (model prog w) A (pyNext (.ref e)) Q E s := by
  have hT : s.TypeIs (.ref e) "enumerate" := ⟨_, he, rfl⟩
  unfold pyNext
  refine wpAny_bind (wpAny_attempt (wpAny_callSpecial?_slot (name := Str.ofString "__next__") hT F.slot_enumerate_next
    (wpAny_call_entry F.slot_enumerate_next hT F.entry_enumerate_next ?_ (F.args_enumerate_next_1 _))))
  show wpAny _ _ (field (.ref e) 2 >>= _) _ _ _
  refine wpAny_bind (wpAny_field he rfl (x := .ref it) rfl ?_)
  refine wpAny_bind (wpAny_nextOf_tuple_end hh hit hl hx fun h' x he' hx' => ?_)
  obtain ⟨o, ho, hc⟩ := hx'
  refine wpAny_bind (wpAny_isInstance (T := "StopIteration") (b := true) ⟨o, ho, hc⟩ isSubtype_stop ?_)
  exact wpAny_pure (hQ _ he')
end PySem

namespace L2
open PySem PySem.Spec PyProof.Rows
/-- the tuple at a, its items in new pairs with their places -/
def ItmT (K : PySem.W.Frag) (a : Addr) : It :=
  ⟨fun i H => ∃ (xs : List V) (x : V), SqT K H a xs ∧ xs[i]? = some x, fun i H v H' => ∃ T x, v = .ref T ∧ H T = none ∧ H' = upd H T (.tup [.int (i : Nat), x]) ∧ ∀ xs, SqT K H a xs → xs[i]? = some x, fun i H => ∃ xs : List V, SqT K H a xs ∧ xs.length ≤ i⟩
theorem turn_enumT {P : Program} {w : World} {K : PySem.W.Frag} {elts : List Expr} {kk : Nat} {tpos : Pos} (a e it : Addr) (hai : a ≠ it) (hae : a ≠ e) :
    Turn P w K (.Tuple elts kk tpos) (ItmT K a) [e, it] e (fun i h => (∃ old, IsEnum h e it ((i : Nat) : Int) old) ∧ h.IsTupleIter it a i ∧ e ≠ it) where
  mem := by simp
  obj := fun i h st b hb => by
    obtain ⟨⟨old, he⟩, ⟨o, ho, hc, hd⟩, _⟩ := st
    have e' : b = e ∨ b = it := by simpa using hb
    rcases e' with z | z
    · rw [z]; exact ⟨_, he, fun v q => nomatch q⟩
    · rw [z]; exact ⟨o, ho, fun v q => by rw [hd] at q; cases q⟩
  keep := fun i h h' st k => let ⟨⟨old, he⟩, hi, hne⟩ := st; ⟨⟨old, k e (by simp) _ he⟩, hi.at fun o q => k it (by simp) o q, hne⟩
  item := by
    intro X hP hw hK hc i pins s σ H E I hf st hg
    subst hP hw hK
    obtain ⟨⟨old, he⟩, hit, hne⟩ := st
    obtain ⟨xs, x, hq, hx⟩ := hg
    obtain ⟨its, rv, p, hz⟩ := I.tuple hq
    obtain ⟨u, hu, ru⟩ := rv.get hx
    have hel : e < s.heap.objs.size := Heap.lt_size he
    have hil : it < s.heap.objs.size := by obtain ⟨_, q, _⟩ := hit; exact Heap.lt_size q
    have pt : s.heap.IsTuple a its.toArray := p
    have hD := Draws.tuple (prog := X.prog) (w := X.w) (A := X.A.in1) (I.ok.hd hc) it a hai its.toArray
    refine wpAny_pyNext_enum_itemD hD he ⟨hit, pt⟩ (by simpa using (List.getElem?_eq_some_iff.mp hu).1) hne (by simp [hne, Ne.symm hae]) fun x' h' tk hPx ho hst hT hsz hk => ?_
    have ex : x' = u := by
      have : its.toArray[i]? = some u := by simpa using hu
      rw [this] at hPx; exact (Option.some.inj hPx).symm
    subst ex
    refine ⟨_, rfl, wpAny_letOwnedTupleGo_enum (s := { s with heap := h', toks := tk + 1 }) ho fun h'' he' sb => ?_⟩
    have hT2 : h''.get? s.heap.objs.size = some { cls := .type "tuple", data := .seq #[.int i tk, x'] } := (sb.2 _ (Nat.ne_of_gt hel)).trans hT
    have new : ObjOk X.prog X.w (upd H s.heap.objs.size (.tup [.int (i : Nat), x])) h'' s.heap.objs.size (.tup [.int (i : Nat), x]) :=
      ⟨by show 2 ≤ sizeLine; decide, [.int i tk, x'], .cons ⟨_, rfl⟩ (.cons ru .nil), ⟨_, hT2, rfl, _, rfl⟩⟩
    have I1 : Inv X pins σ (upd H s.heap.objs.size (.tup [.int (i : Nat), x])) { s with heap := h'', toks := tk + 1 } :=
      I.turnedNew (ch := [e, it]) (fun b ob hb q => (sb.2 b (fun z => hb (by simp [z]))).trans (hk b ob (fun z => hb (by simp [z])) (fun z => hb (by simp [z])) q)) hf (Nat.le_refl _) new
    refine ⟨.ref s.heap.objs.size, _, I1, rfl, ⟨_, x, rfl, I.hok.fresh (Nat.le_refl _), rfl, fun ys hy => by rw [I.tuple_inj hy hq]; exact hx⟩, ⟨⟨x', ?_⟩, hst.1.at fun o q => (sb.2 it (Ne.symm hne)).trans q, hne⟩, fun b hb => ?_⟩
    · have e1 : ((i + 1 : Nat) : Int) = (i : Int) + 1 := by omega
      rw [e1]; exact he'
    · have hb' : b < s.heap.objs.size := by
        have e' : b = e ∨ b = it := by simpa using hb
        rcases e' with z | z
        · rw [z]; exact hel
        · rw [z]; exact hil
      rw [upd_ne (Nat.ne_of_lt hb')]
      exact (hf b hb).1
  done := by
    intro X hP hw hK hc i pins s σ H E I hf st hg
    subst hP hw hK
    obtain ⟨⟨old, he⟩, hit, hne⟩ := st
    obtain ⟨xs, hq, hx⟩ := hg
    obtain ⟨its, rv, p, hz⟩ := I.tuple hq
    obtain ⟨f0, f1, f2, f3, f4, f5⟩ := hf it (by simp)
    have hl := rv.length
    exact fo_enum_endT (I.ok.hd hc) he hit (show s.heap.IsTuple a its.toArray from p) (by simp; omega) fun h' eb => ⟨rfl, I.turned (t' := s.toks) (fun b o hb q => eb b o hb q) f0 f1 f3 f4 f5⟩
  self := fun A i s Q E st h => let ⟨⟨_, he⟩, _⟩ := st; wpAny_pyIter_enum he h
def iEnumA (K : PySem.W.Frag) (ta : TA) : TI := fun σ H R => ta σ H fun vs H1 => ∃ a, vs = [.ref a] ∧ (((∃ xs, SqL K H1 a xs) ∧ R (Ite K a) H1) ∨ ((∃ xs, SqT K H1 a xs) ∧ R (ItmT K a) H1))
theorem pi_enumA {X : Cx} {e : Expr} {ta : TA} {p pos tpos : Pos} {elts : List Expr} {kk : Nat} (hg : Gl X "enumerate") (hm : X.mg "enumerate" = none) (ha : PA X [e] ta) (hs : starEach [e] X.env = [(false, eval e X.env)] := by rfl) :
    PI X (.Tuple elts kk tpos) (.Call (.Name "enumerate" p) [e] [] pos) (iEnumA X.K ta) := by
  refine ⟨fun pins s σ H R I h => ?_⟩
  refine Call_ (ld_blt I hg hm boot_enumerate (PyProof.Rows.callWith_type1 (thn (ha.run pos pins s σ H _ I h) fun us s1 ⟨vs, H1, I1, r1, q1⟩ => ?_) hs rfl))
  obtain ⟨a, ex, q⟩ := q1
  subst ex
  cases r1 with
  | cons r rr =>
    cases rr
    cases r
    rcases q with ⟨⟨xs, hq⟩, q⟩ | ⟨⟨xs, hq⟩, q⟩
    · obtain ⟨its, rv, p', hz⟩ := I1.list hq
      refine call_enumerate_list p'.isList fun h' he hit hsz hk => wpAny_pyIter_enum he ?_
      have I2 : Inv X pins σ H1 { s1 with heap := h' } := I1.kept (t' := s1.toks) hk
      refine ⟨s1.heap.objs.size + 1, [s1.heap.objs.size + 1, s1.heap.objs.size], _, _, H1, rfl, I2, turn_enum a (s1.heap.objs.size + 1) s1.heap.objs.size, ⟨⟨.none, he⟩, hit, Nat.succ_ne_self _⟩, fun b hb => ?_, q⟩
      have e' : b = s1.heap.objs.size + 1 ∨ b = s1.heap.objs.size := by simpa using hb
      have hle : s1.heap.objs.size ≤ b := by
        rcases e' with z | z
        · rw [z]; exact Nat.le_add_right _ _
        · rw [z]; exact Nat.le_refl _
      exact I1.fpOk hle (I1.hok.fresh hle)
    · obtain ⟨its, rv, p', hz⟩ := I1.tuple hq
      have pt : s1.heap.IsTuple a its.toArray := p'
      have hal : a < s1.heap.objs.size := by obtain ⟨o, e, _⟩ := pt; exact Heap.lt_size e
      refine fo_call_enumB (begins_tuple a its.toArray) pt fun h' he hit hsz hk => wpAny_pyIter_enum he ?_
      have I2 : Inv X pins σ H1 { s1 with heap := h' } := I1.kept (t' := s1.toks) hk
      refine ⟨s1.heap.objs.size + 1, [s1.heap.objs.size + 1, s1.heap.objs.size], _, _, H1, rfl, I2, turn_enumT a (s1.heap.objs.size + 1) s1.heap.objs.size (Nat.ne_of_lt hal) (Nat.ne_of_lt (Nat.lt_succ_of_lt hal)), ⟨⟨.none, he⟩, ⟨_, hit, rfl, rfl⟩, Nat.succ_ne_self _⟩, fun b hb => ?_, q⟩
      have e' : b = s1.heap.objs.size + 1 ∨ b = s1.heap.objs.size := by simpa using hb
      have hle : s1.heap.objs.size ≤ b := by
        rcases e' with z | z
        · rw [z]; exact Nat.le_add_right _ _
        · rw [z]; exact Nat.le_refl _
      exact I1.fpOk hle (I1.hok.fresh hle)
/-- a list or a tuple, whichever comes -/
theorem pi_seq {X : Cx} {tg l : Expr} {tl : TE} (hl : PE X l tl) : PI X tg l (fun σ H R => tl σ H fun x H1 => ∃ a, x = .ref a ∧ (((∃ xs, SqL X.K H1 a xs) ∧ R (Itl X.K a) H1) ∨ ((∃ xs, SqT X.K H1 a xs) ∧ R (Itt X.K a) H1))) := by
  refine ⟨fun pins s σ H R I h => ?_⟩
  refine thn (hl.run pins s σ H _ I h) fun v s1 ⟨x, H1, I1, r1, q1⟩ => ?_
  obtain ⟨a, e, q⟩ := q1
  subst e
  cases r1
  rcases q with ⟨⟨xs, hq⟩, q⟩ | ⟨⟨xs, hq⟩, q⟩
  · obtain ⟨its, rv, p, hz⟩ := I1.list hq
    refine wpAny_pyIter_list p.isList ?_
    refine ⟨s1.heap.objs.size, [s1.heap.objs.size], _, _, H1, rfl, I1.kept (t' := s1.toks) fun b o e => Heap.get?_push_of_some _ e, turn_list a _, ⟨_, Heap.get?_push_size _ rfl, rfl, rfl⟩, fun b hb => ?_, q⟩
    have e : b = s1.heap.objs.size := by simpa using hb
    subst e
    exact I1.fpOk (Nat.le_refl _) (I1.hok.fresh (Nat.le_refl _))
  · obtain ⟨its, rv, p, hz⟩ := I1.tuple hq
    refine wpAny_pyIter_tuple (show s1.heap.IsTuple a its.toArray from p) ?_
    refine ⟨s1.heap.objs.size, [s1.heap.objs.size], _, _, H1, rfl, I1.kept (t' := s1.toks) fun b o e => Heap.get?_push_of_some _ e, turn_tuple a _, ⟨_, Heap.get?_push_size _ rfl, rfl, rfl⟩, fun b hb => ?_, q⟩
    have e : b = s1.heap.objs.size := by simpa using hb
    subst e
    exact I1.fpOk (Nat.le_refl _) (I1.hok.fresh (Nat.le_refl _))
theorem PI.weaken {X : Cx} {tg e : Expr} {t t' : TI} (h : PI X tg e t) (m : ∀ σ H R, t' σ H R → t σ H R) : PI X tg e t' := ⟨fun pins s σ H R I q => h.run pins s σ H R I (m σ H R q)⟩
theorem PG.weaken {X : Cx} {e : Expr} {t t' : TG} (h : PG X e t) (m : ∀ v σ H Q, t' v σ H Q → t v σ H Q) : PG X e t' := ⟨fun pins s σ H v u Q I r q => h.run pins s σ H v u Q I r (m v σ H Q q)⟩
theorem PGs.weaken {X : Cx} {e : List Expr} {t t' : TGs} (h : PGs X e t) (m : ∀ v σ H Q, t' v σ H Q → t v σ H Q) : PGs X e t' := ⟨fun pins s σ H v u Q I r q => h.run pins s σ H v u Q I r (m v σ H Q q)⟩
end L2

namespace Fo
open PySem L2 LamX PyProof.Rows
/-! ### targets -/
section
variable {K : PySem.W.Frag} {T : Tbs} {σ σ1 σ2 : L2.St} {ρ ρ1 ρ2 : Rho} {k H : Hp}
theorem wf_set {i : Nat} {v : V} {d : D} (w : WF K T σ ρ k H) (hi : i < ρ.length) (hv : Dp K k v d) : WF K T (σ.set i (some v)) (ρ.set i (.val d)) k H where
  sub := w.sub
  ntb := w.ntb
  tab := w.tab
  len := by rw [List.length_set, List.length_set]; exact w.len
  val := fun j x e => by
    by_cases z : i = j
    · subst z
      rw [List.getElem?_set_self hi] at e; cases e
      exact ⟨v, List.getElem?_set_self (by rw [← w.len]; exact hi), hv⟩
    · rw [List.getElem?_set_ne z] at e
      obtain ⟨u, g1, g2⟩ := w.val j x e
      exact ⟨u, by rw [List.getElem?_set_ne z]; exact g1, g2⟩
  own := fun j x e => by
    by_cases z : i = j
    · subst z; rw [List.getElem?_set_self hi] at e; cases e
    · rw [List.getElem?_set_ne z] at e
      obtain ⟨a, g1, g2⟩ := w.own j x e
      exact ⟨a, by rw [List.getElem?_set_ne z]; exact g1, g2⟩
  dis := fun j j' a o1 o2 => by
    have lift : ∀ {j}, Own (σ.set i (some v)) (ρ.set i (.val d)) j a → Own σ ρ j a := fun {j} o => by
      obtain ⟨⟨x, e1⟩, e2⟩ := o
      by_cases z : i = j
      · subst z; rw [List.getElem?_set_self hi] at e1; cases e1
      · rw [List.getElem?_set_ne z] at e1 e2
        exact ⟨⟨x, e1⟩, e2⟩
    exact w.dis j j' a (lift o1) (lift o2)
/-- what a store to the slots is changes nothing else -/
structure Ag (is : List Nat) (σ : L2.St) (ρ : Rho) (σ1 : L2.St) (ρ1 : Rho) : Prop where
  len : σ1.length = σ.length
  els : ∀ i, i ∉ is → σ1[i]? = σ[i]? ∧ ρ1[i]? = ρ[i]?
  own : ∀ i a, Own σ1 ρ1 i a → Own σ ρ i a
theorem Ag.refl {is : List Nat} : Ag is σ ρ σ ρ := ⟨rfl, fun _ _ => ⟨rfl, rfl⟩, fun _ _ h => h⟩
theorem Ag.trans {is js : List Nat} (a : Ag is σ ρ σ1 ρ1) (b : Ag js σ1 ρ1 σ2 ρ2) : Ag (is ++ js) σ ρ σ2 ρ2 :=
  ⟨b.len.trans a.len, fun i h => by
    rw [List.mem_append, not_or] at h
    exact ⟨(b.els i h.2).1.trans (a.els i h.1).1, (b.els i h.2).2.trans (a.els i h.1).2⟩, fun i x o => a.own i x (b.own i x o)⟩
theorem ag_set {i : Nat} {v : V} {d : D} (hi : i < ρ.length) : Ag [i] σ ρ (σ.set i (some v)) (ρ.set i (.val d)) := by
  refine ⟨List.length_set, fun j h => ?_, fun j a o => ?_⟩
  · have ne : i ≠ j := fun z => h (by simp [z])
    exact ⟨List.getElem?_set_ne ne, List.getElem?_set_ne ne⟩
  · obtain ⟨⟨x, e1⟩, e2⟩ := o
    by_cases z : i = j
    · subst z; rw [List.getElem?_set_self hi] at e1; cases e1
    · rw [List.getElem?_set_ne z] at e1 e2
      exact ⟨⟨x, e1⟩, e2⟩
end
/-- the target of a store -/
def tG (K : PySem.W.Frag) (T : Tbs) (t : Tg) : TG := fun v σ H Q => ∃ ρ k d ρ1, WF K T σ ρ k H ∧ Dp K k v d ∧ bindT t d ρ = .ok ρ1 ∧ ∀ σ1, WF K T σ1 ρ1 k H → Ag t.slots σ ρ σ1 ρ1 → Q σ1 H
def tGs (K : PySem.W.Frag) (T : Tbs) (t : Tg) : TGs := fun vs σ H Q => ∃ ρ k ds ρ1, WF K T σ ρ k H ∧ DpAll K k vs ds ∧ bindT t (.tuple ds) ρ = .ok ρ1 ∧ ∀ σ1, WF K T σ1 ρ1 k H → Ag t.slots σ ρ σ1 ρ1 → Q σ1 H
mutual
def chkG (N : List Str) (lc : Str → Bool) : Tg → Expr → Bool
  | .name i, .Name x _ => decide (N[i]? = some x) && lc x
  | .nil, .Tuple [] _ _ => true
  | .cons t r, .Tuple (e :: es) _ _ => chkG N lc t e && chkGs N lc r es
  | _, _ => false
def chkGs (N : List Str) (lc : Str → Bool) : Tg → List Expr → Bool
  | .nil, [] => true
  | .cons t r, e :: es => chkG N lc t e && chkGs N lc r es
  | _, _ => false
end
section
variable {X : Cx} {N : List Str} {lc : Str → Bool} {Tb : Tbs}
theorem as_cons {e : Expr} {es : List Expr} {env : Env} (h : ∃ t, chkG N lc t e = true) : assignEach (e :: es) env = (false, assign e env) :: assignEach es env := by
  obtain ⟨t, h⟩ := h
  cases e <;> first | rfl | (cases t <;> cases h)
theorem as_all {env : Env} : ∀ {t : Tg} {es : List Expr}, chkGs N lc t es = true → (assignEach es env).findIdx? (·.1) = none ∧ (assignEach es env).length = es.length
  | .nil, [], _ => ⟨rfl, rfl⟩
  | .cons t r, e :: es, h => by
    unfold chkGs at h
    rw [Bool.and_eq_true] at h
    rw [as_cons ⟨t, h.1⟩]
    obtain ⟨h1, h2⟩ := as_all (env := env) h.2
    refine ⟨?_, by rw [List.length_cons, List.length_cons, h2]⟩
    rw [List.findIdx?_cons, h1]; rfl
  | .nil, _ :: _, h => by unfold chkGs at h; cases h
  | .cons _ _, [], h => by unfold chkGs at h; cases h
  | .name _, _, h => by unfold chkGs at h; cases h
theorem tg_len {r : Tg} {ds : List D} {ρ ρ1 : Rho} : ∀ {es : List Expr}, chkGs N lc r es = true → bindT r (.tuple ds) ρ = .ok ρ1 → ds.length = es.length := by
  induction r generalizing ds ρ with
  | name i => intro es h; unfold chkGs at h; cases h
  | nil => intro es h e; cases es with
    | nil => cases ds with
      | nil => rfl
      | cons _ _ => unfold bindT at e; cases e
    | cons _ _ => unfold chkGs at h; cases h
  | cons t r _ ih => intro es h e; cases es with
    | nil => unfold chkGs at h; cases h
    | cons x es =>
      unfold chkGs at h
      rw [Bool.and_eq_true] at h
      cases ds with
      | nil => unfold bindT at e; cases e
      | cons d ds =>
        unfold bindT at e
        cases q : bindT t d ρ with
        | ok ρ2 =>
          rw [q] at e
          rw [List.length_cons, List.length_cons, ih h.2 e]
        | _ => rw [q] at e; cases e
theorem s_tg (hnd : X.N.Nodup) (hN : X.N = N) (hc : X.calm = true) (hl : ∀ x, lc x = true → Loc X.env.scope x ∧ (X.fn x = true ∨ X.env.scope.names.lookup x = some .local)) :
    ∀ (t : Tg), (∀ e, chkG N lc t e = true → PG X e (tG X.K Tb t)) ∧ (∀ es, chkGs N lc t es = true → PGs X es (tGs X.K Tb t)) := by
  intro t
  have tup : ∀ {r : Tg} {es : List Expr} {j : Nat} {p : Pos}, chkGs N lc r es = true → PGs X es (tGs X.K Tb r) → PG X (.Tuple es j p) (tG X.K Tb r) := fun {r es j p} h hp => by
    obtain ⟨g1, g2⟩ := as_all (env := X.env) h
    refine (pg_tup hc hp (n := es.length) g2 g1).weaken fun v σ H Q ⟨ρ, k, d, ρ1, w, hv, e, q⟩ => ?_
    cases d with
    | tuple ds =>
      cases hv with
      | tup h1 h2 => exact ⟨_, _, rfl, sqt_mono w.sub h1, by rw [h2.lenD]; exact tg_len h e, ρ, k, ds, ρ1, w, h2, e, q⟩
    | _ => cases r <;> first | (unfold chkGs at h; cases h; done) | (unfold bindT at e; cases e)
  induction t with
  | name i =>
    refine ⟨fun e h => ?_, fun es h => by unfold chkGs at h; cases h⟩
    cases e with
    | Name x p =>
      unfold chkG at h
      simp only [Bool.and_eq_true, decide_eq_true_eq] at h
      obtain ⟨l1, l2⟩ := hl x h.2
      refine (pg_name hnd (by rw [hN]; exact h.1) l1 l2).weaken fun v σ H Q ⟨ρ, k, d, ρ1, w, hv, e, q⟩ => ?_
      unfold bindT at e
      by_cases hi : i < ρ.length
      · rw [if_pos hi] at e
        cases e
        exact q _ (wf_set w hi hv) (ag_set hi)
      · rw [if_neg hi] at e; cases e
    | _ => unfold chkG at h; cases h
  | nil =>
    have hs : ∀ es, chkGs N lc .nil es = true → PGs X es (tGs X.K Tb .nil) := fun es h => by
      cases es with
      | nil =>
        refine pgs_nil.weaken fun v σ H Q ⟨ρ, k, ds, ρ1, w, hv, e, q⟩ => ?_
        cases ds with
        | nil =>
          cases hv
          unfold bindT at e
          cases e
          exact ⟨rfl, q σ w .refl⟩
        | cons _ _ => unfold bindT at e; cases e
      | cons _ _ => unfold chkGs at h; cases h
    refine ⟨fun e h => ?_, hs⟩
    cases e with
    | Tuple es j p =>
      cases es with
      | nil => exact tup (r := .nil) (by unfold chkGs; rfl) (hs [] (by unfold chkGs; rfl))
      | cons _ _ => unfold chkG at h; cases h
    | _ => unfold chkG at h; cases h
  | cons t r iht ihr =>
    have hs : ∀ es, chkGs N lc (.cons t r) es = true → PGs X es (tGs X.K Tb (.cons t r)) := fun es h => by
      cases es with
      | nil => unfold chkGs at h; cases h
      | cons x es =>
        unfold chkGs at h
        rw [Bool.and_eq_true] at h
        refine (pgs_cons (iht.1 x h.1) (ihr.2 es h.2) (by rw [as_cons ⟨t, h.1⟩]; rfl)).weaken fun v σ H Q ⟨ρ, k, ds, ρ1, w, hv, e, q⟩ => ?_
        cases ds with
        | nil => unfold bindT at e; cases e
        | cons d ds =>
          cases hv with
          | cons hv1 hv2 =>
            unfold bindT at e
            cases z : bindT t d ρ with
            | ok ρ2 =>
              rw [z] at e
              refine ⟨_, _, rfl, ρ, k, d, ρ2, w, hv1, z, fun σ1 w1 a1 => ?_⟩
              refine ⟨ρ2, k, ds, ρ1, w1, hv2, e, fun σ2 w2 a2 => q σ2 w2 ?_⟩
              exact a1.trans a2
            | _ => rw [z] at e; cases e
    refine ⟨fun e h => ?_, hs⟩
    cases e with
    | Tuple es j p =>
      cases es with
      | nil => unfold chkG at h; cases h
      | cons x es =>
        unfold chkG at h
        have h' : chkGs N lc (.cons t r) (x :: es) = true := by unfold chkGs; exact h
        exact tup h' (hs _ h')
    | _ => unfold chkG at h; cases h
end
end Fo

set_option Elab.async false
set_option linter.all false
set_option maxRecDepth 100000
set_option maxHeartbeats 4000000
/-! SemB6: walks and comprehensions. -/
namespace Fo
open PySem L2 LamX PyProof.Rows

/-! ### what a walk yields -/
structure Yl (K : PySem.W.Frag) (J : It) (P : Hp → Hp → Prop) (xs : List D) : Prop where
  go : ∀ (i : Nat) k H d, xs[i]? = some d → Same k H → P k H → J.go i H ∧ ∀ x H1, J.yld i H x H1 → ∃ k1, Px k H k1 H1 ∧ Dp K k1 x d
  stop : ∀ (i : Nat) k H, xs.length ≤ i → Same k H → P k H → J.stop i H
section
variable {K : PySem.W.Frag} {k0 : Hp} {a b : Addr} {vs ws : List V} {xs ys : List D}
theorem yl_list (hv : SqL K k0 a vs) (hd : DpAll K k0 vs xs) : Yl K (Itl K a) (fun k _ => Same k0 k) xs where
  go := fun i k H d hi s p => by
    obtain ⟨v, g1, g2⟩ := hd.getD hi
    have q : SqL K H a vs := s.seq (p.seq hv)
    refine ⟨⟨vs, v, q, g1⟩, fun x H1 y => ?_⟩
    obtain ⟨rfl, y⟩ := y
    have e := (y vs q).symm.trans g1
    cases e
    exact ⟨k, .refl s, dp_mono p g2⟩
  stop := fun i k H hi s p => ⟨vs, s.seq (p.seq hv), by rw [hd.lenD]; exact hi⟩
theorem yl_own (hd : DpAll K k0 vs xs) : Yl K (Itl K a) (fun k H => Same k0 k ∧ H a = some (.lst vs)) xs where
  go := fun i k H d hi s p => by
    obtain ⟨v, g1, g2⟩ := hd.getD hi
    have q : SqL K H a vs := .of p.2
    refine ⟨⟨vs, v, q, g1⟩, fun x H1 y => ?_⟩
    obtain ⟨rfl, y⟩ := y
    have e := (y vs q).symm.trans g1
    cases e
    exact ⟨k, .refl s, dp_mono p.1 g2⟩
  stop := fun i k H hi s p => ⟨vs, .of p.2, by rw [hd.lenD]; exact hi⟩
theorem yl_tup (hv : SqT K k0 a vs) (hd : DpAll K k0 vs xs) : Yl K (Itt K a) (fun k _ => Same k0 k) xs where
  go := fun i k H d hi s p => by
    obtain ⟨v, g1, g2⟩ := hd.getD hi
    have q : SqT K H a vs := sqt_mono s (sqt_mono p hv)
    refine ⟨⟨vs, v, q, g1⟩, fun x H1 y => ?_⟩
    obtain ⟨rfl, y⟩ := y
    have e := (y vs q).symm.trans g1
    cases e
    exact ⟨k, .refl s, dp_mono p g2⟩
  stop := fun i k H hi s p => ⟨vs, sqt_mono s (sqt_mono p hv), by rw [hd.lenD]; exact hi⟩
theorem range_get {lo : Int} {n i : Nat} {d : D} (h : (rangeD lo n)[i]? = some d) : i < n ∧ d = .int (lo + (i : Nat)) := by
  unfold rangeD at h
  rw [List.getElem?_map] at h
  by_cases hi : i < n
  · rw [List.getElem?_range hi] at h
    exact ⟨hi, (Option.some.inj h).symm⟩
  · rw [List.getElem?_eq_none (by rw [List.length_range]; omega)] at h; cases h
theorem yl_range {lo : Int} {n : Nat} : Yl K (Itr lo n) (fun k _ => Same k0 k) (rangeD lo n) where
  go := fun i k H d hi s p => by
    obtain ⟨h1, rfl⟩ := range_get hi
    refine ⟨h1, fun x H1 y => ?_⟩
    obtain ⟨rfl, rfl⟩ := y
    exact ⟨k, .refl s, .int _⟩
  stop := fun i k H hi s p => by
    unfold rangeD at hi
    rw [List.length_map, List.length_range] at hi
    exact hi
theorem enum_get {i : Nat} {d : D} (h : (enumD xs)[i]? = some d) : ∃ x, xs[i]? = some x ∧ d = .tuple [.int (i : Nat), x] := by
  unfold enumD at h
  rw [List.getElem?_zipWith] at h
  by_cases hi : i < xs.length
  · rw [List.getElem?_range hi, List.getElem?_eq_getElem hi] at h
    exact ⟨xs[i], List.getElem?_eq_getElem hi, (Option.some.inj h).symm⟩
  · rw [List.getElem?_eq_none (by rw [List.length_range]; omega)] at h
    cases h
theorem enum_len : (enumD xs).length = xs.length := by
  unfold enumD
  rw [List.length_zipWith, List.length_range, Nat.min_self]
theorem pair_new {k H : Hp} {T : Addr} {x y : V} {d e : D} (s : Same k H) (hT : H T = none) (hx : Dp K k x d) (hy : Dp K k y e) : ∃ k1, Px k H k1 (upd H T (.tup [x, y])) ∧ Dp K k1 (.ref T) (.tuple [d, e]) := by
  have px := Px.alloc s hT (o := .tup [x, y]) (fun ps z => by cases z)
  exact ⟨_, px, .tup (.of upd_same) (.cons (dp_mono px.kk hx) (.cons (dp_mono px.kk hy) .nil))⟩
theorem yl_enum (hv : SqL K k0 a vs) (hd : DpAll K k0 vs xs) : Yl K (Ite K a) (fun k _ => Same k0 k) (enumD xs) where
  go := fun i k H d hi s p => by
    obtain ⟨x, hx, rfl⟩ := enum_get hi
    obtain ⟨v, g1, g2⟩ := hd.getD hx
    have q : SqL K H a vs := s.seq (p.seq hv)
    refine ⟨⟨vs, v, q, g1⟩, fun y H1 yy => ?_⟩
    obtain ⟨T, z, rfl, hT, rfl, hz⟩ := yy
    have e := (hz vs q).symm.trans g1
    cases e
    exact pair_new s hT (.int _) (dp_mono p g2)
  stop := fun i k H hi s p => ⟨vs, s.seq (p.seq hv), by rw [hd.lenD, ← enum_len]; exact hi⟩
theorem yl_enumT (hv : SqT K k0 a vs) (hd : DpAll K k0 vs xs) : Yl K (ItmT K a) (fun k _ => Same k0 k) (enumD xs) where
  go := fun i k H d hi s p => by
    obtain ⟨x, hx, rfl⟩ := enum_get hi
    obtain ⟨v, g1, g2⟩ := hd.getD hx
    have q : SqT K H a vs := sqt_mono s (sqt_mono p hv)
    refine ⟨⟨vs, v, q, g1⟩, fun y H1 yy => ?_⟩
    obtain ⟨T, z, rfl, hT, rfl, hz⟩ := yy
    have e := (hz vs q).symm.trans g1
    cases e
    exact pair_new s hT (.int _) (dp_mono p g2)
  stop := fun i k H hi s p => ⟨vs, sqt_mono s (sqt_mono p hv), by rw [hd.lenD, ← enum_len]; exact hi⟩
theorem zip_get {i : Nat} {d : D} (h : (zipD xs ys)[i]? = some d) : ∃ x y, xs[i]? = some x ∧ ys[i]? = some y ∧ d = .tuple [x, y] := by
  unfold zipD at h
  rw [List.getElem?_zipWith] at h
  cases e1 : xs[i]? with
  | none => rw [e1] at h; cases h
  | some x =>
    cases e2 : ys[i]? with
    | none => rw [e1, e2] at h; cases h
    | some y => rw [e1, e2] at h; exact ⟨x, y, rfl, rfl, (Option.some.inj h).symm⟩
theorem yl_zip (hv : SqL K k0 a vs) (hd : DpAll K k0 vs xs) (hw : SqL K k0 b ws) (he : DpAll K k0 ws ys) : Yl K (Itz K a b) (fun k _ => Same k0 k) (zipD xs ys) where
  go := fun i k H d hi s p => by
    obtain ⟨x, y, hx, hy, rfl⟩ := zip_get hi
    obtain ⟨v, g1, g2⟩ := hd.getD hx
    obtain ⟨u, g3, g4⟩ := he.getD hy
    have q : SqL K H a vs := s.seq (p.seq hv)
    have q2 : SqL K H b ws := s.seq (p.seq hw)
    refine ⟨⟨vs, ws, v, u, q, q2, g1, g3⟩, fun z H1 yy => ?_⟩
    obtain ⟨T, z1, z2, rfl, hT, rfl, h1, h2⟩ := yy
    have e1 := (h1 vs q).symm.trans g1
    have e2 := (h2 ws q2).symm.trans g3
    cases e1
    cases e2
    exact pair_new s hT (dp_mono p g2) (dp_mono p g4)
  stop := fun i k H hi s p => by
    refine ⟨vs, ws, s.seq (p.seq hv), s.seq (p.seq hw), ?_⟩
    unfold zipD at hi
    rw [List.length_zipWith] at hi
    rw [hd.lenD, he.lenD]
    omega
end
/-- the condition of a walk that begins at k1, H1; oc: the slots that the body touches -/
def POk (σ : L2.St) (ρ1 : Rho) (k1 H1 : Hp) (oc : Nat → Bool) (P : Hp → Hp → Prop) : Prop :=
  P = (fun k _ => Same k1 k) ∨ ∃ i a vs, oc i = false ∧ Own σ ρ1 i a ∧ H1 a = some (.lst vs) ∧ P = fun k H => Same k1 k ∧ H a = some (.lst vs)
theorem POk.start {σ : L2.St} {ρ1 : Rho} {k1 H1 : Hp} {oc : Nat → Bool} {P : Hp → Hp → Prop} (h : POk σ ρ1 k1 H1 oc P) : P k1 H1 := by
  rcases h with rfl | ⟨i, a, vs, _, _, h, rfl⟩
  · exact fun _ _ h => h
  · exact ⟨fun _ _ h => h, h⟩
def tI (K : PySem.W.Frag) (T : Tbs) (W : XW) (ms oc : Nat → Bool) (f : Rho → R (List D × Rho)) : TI := fun σ H R => ∃ ρ k, WF K T σ ρ k H ∧ pG K T W ms σ ρ k H (f ρ) fun xs ρ1 k1 H1 => ∀ J P, Yl K J P xs → POk σ ρ1 k1 H1 oc P → R J H1
section
variable {X : Cx} {Tb : Tbs} {W : XW} {m ma ms oc : Nat → Bool} {a e : Expr} {es : List Expr} {fa : Rho → R (D × Rho)} {fs : Rho → R (List D × Rho)} {pos p : Pos} {tg : Expr}
theorem pG_itD {k : ItK} {σ : L2.St} {ρ : Rho} {kk H : Hp} {ds : List D} {G : List D → Rho → Hp → Hp → Prop} (h : pG X.K Tb W m σ ρ kk H ((ofOpt (itD k ds)).bind fun xs => .ok (xs, ρ)) G) (w : WF X.K Tb σ ρ kk H) : ∃ xs, itD k ds = some xs ∧ G xs ρ kk H := by
  cases q : itD k ds with
  | none => rw [q] at h; exact h.elim
  | some xs => rw [q] at h; exact ⟨xs, rfl, pG_ok h w⟩
theorem i_seq {xa : Ex} (C : Ctx) (ha : PE X a (tE X.K Tb W (fun i => occ i xa) (evE C xa))) (hvar : VarOk X xa a) :
    PI X tg a (tI X.K Tb W (fun i => occ i xa) oc (peekI .seq (.cons xa .nil) oc (evA C (.cons xa .nil)))) := by
  refine (pi_seq (tl := fun σ H Q => ∃ ρ k, WF X.K Tb σ ρ k H ∧ pG X.K Tb W (fun i => occ i xa) σ ρ k H (peekI .seq (.cons xa .nil) oc (evA C (.cons xa .nil)) ρ) fun xs ρ1 k1 H1 =>
      ∀ v, ((∃ d, Dp X.K k1 v d ∧ itD .seq [d] = some xs) ∨ (∃ i q, oc i = false ∧ ρ1[i]? = some (.own (.list xs)) ∧ σ[i]? = some (some (.ref q)) ∧ v = .ref q)) → Q v H1) ⟨fun pins s σ H Q I ⟨ρ, k, w, h⟩ => ?_⟩).weaken fun σ H R ⟨ρ, k, w, h⟩ => ⟨ρ, k, w, ?_⟩
  · by_cases hx : ∃ i xs, xa = .var i ∧ ρ[i]? = some (.own (.list xs))
    · obtain ⟨i, xs, rfl, ee⟩ := hx
      obtain ⟨x, q, rfl, h1, h2, h3, h4⟩ := hvar i rfl
      unfold peekI at h
      simp only [ee] at h
      by_cases ho : oc i = true
      · rw [if_pos ho] at h; exact h.elim
      · rw [if_neg ho] at h
        obtain ⟨q, g1, g2, g3⟩ := w.own i _ ee
        refine (pe_var h1 h2 h3 h4).run pins s σ H Q I ⟨_, g1, pG_ok h w _ (.inr ⟨i, q, by simpa using ho, ee, g1, rfl⟩)⟩
    · have e1 : evA C (.cons xa .nil) ρ = (evE C xa ρ).bind fun (d, ρ1) => .ok ([d], ρ1) := by
        rw [evA]
        cases evE C xa ρ with
        | bad => rfl
        | exc c => rfl
        | ok q => obtain ⟨d, ρ1⟩ := q; show (evA C .nil ρ1).bind (fun (xs, ρ2) => R.ok (d :: xs, ρ2)) = .ok ([d], ρ1); rw [evA]; rfl
      have e2 : peekI .seq (.cons xa .nil) oc (evA C (.cons xa .nil)) ρ = ((evE C xa ρ).bind fun (d, ρ1) => (R.ok ([d], ρ1) : R (List D × Rho))).bind fun (ds, ρ1) => (ofOpt (itD .seq ds)).bind fun xs => .ok (xs, ρ1) := by
        rw [← e1]
        unfold peekI
        cases xa with
        | var i =>
          simp only
          split
          · rename_i xs z
            exact absurd ⟨i, xs, rfl, z⟩ hx
          · rfl
        | _ => rfl
      rw [e2, R.bind_assoc] at h
      refine ha.run pins s σ H Q I ⟨ρ, k, w, pG_mono (pG_bind h) (fun _ z => z) fun d ρ1 k1 H1 _ w1 q v hv => ?_⟩
      obtain ⟨xs, e3, g⟩ := pG_itD (ds := [d]) q w1
      exact g v (.inl ⟨d, hv, e3⟩)
  · refine pG_mono h (fun _ z => z) fun xs ρ1 k1 H1 t1 w1 g v hv => ?_
    rcases hv with ⟨d, hd, e3⟩ | ⟨i, q, h1, h2, h3, rfl⟩
    · cases hd with
      | lst g1 g2 =>
        cases e3
        exact ⟨_, rfl, .inl ⟨⟨_, w1.sub.seq g1⟩, g _ _ (yl_list g1 g2) (.inl rfl)⟩⟩
      | tup g1 g2 =>
        cases e3
        exact ⟨_, rfl, .inr ⟨⟨_, sqt_mono w1.sub g1⟩, g _ _ (yl_tup g1 g2) (.inl rfl)⟩⟩
      | _ => cases e3
    · obtain ⟨b, g1, g2, vs, g3, g4⟩ := w1.own i _ h2
      rw [h3] at g1
      cases g1
      exact ⟨q, rfl, .inl ⟨⟨vs, .of g3⟩, g _ _ (yl_own g4) (.inr ⟨i, q, vs, h1, ⟨⟨_, h2⟩, h3⟩, g3, rfl⟩)⟩⟩
theorem peekI_other {k : ItK} {as : Ex} {f : Rho → R (List D × Rho)} (h : k ≠ .seq) : peekI k as oc f = fun ρ => (f ρ).bind fun (ds, ρ1) => (ofOpt (itD k ds)).bind fun xs => .ok (xs, ρ1) := by
  funext ρ
  unfold peekI
  cases k with
  | seq => exact absurd rfl h
  | _ => rfl
variable {n : Nat} {t : Tx} {Q : Prog} {ca : Nat → Addr} {N : List Str}
theorem i_rng1 {x : Str} {as : Ex} (hg : Gl X x) (hx : x = "range") (hm : X.mg x = none) (hs : PA X [a] (tA X.K Tb W ms fs)) (hst : noStar a = true) (hms : ∀ i, ms i = true → m i = true) :
    PI X tg (.Call (.Name x p) [a] [] pos) (tI X.K Tb W m oc (peekI .rng1 as oc fs)) := by
  subst hx
  rw [peekI_other (fun z => by cases z)]
  refine (pi_range1 hg hm hs (star_cons hst [] X.env)).weaken fun σ H R ⟨ρ, k, w, h⟩ => ⟨ρ, k, w, pG_mono (pG_bind h) hms fun ds ρ1 k1 H1 t1 w1 q vs hvs => ?_⟩
  obtain ⟨xs, e, g⟩ := pG_itD (ds := ds) q w1
  match ds, hvs, e with
  | [.int j], hvs, e =>
    obtain ⟨v, rfl, hv⟩ := one_dp hvs
    have e : (if rngOk j = true then some (rangeD 0 j.toNat) else none) = some xs := e
    by_cases hc : rngOk j = true
    · rw [if_pos hc] at e
      cases e
      unfold rngOk at hc
      simp only [Bool.and_eq_true, decide_eq_true_eq] at hc
      exact ⟨j, by rw [dp_int hv], hc.1, hc.2, g _ _ yl_range (.inl rfl)⟩
    · rw [if_neg hc] at e; cases e
theorem i_rng2 {x : Str} {as : Ex} (hg : Gl X x) (hx : x = "range") (hm : X.mg x = none) (hs : PA X [a, e] (tA X.K Tb W ms fs)) (hst : noStar a = true) (hst2 : noStar e = true) (hms : ∀ i, ms i = true → m i = true) :
    PI X tg (.Call (.Name x p) [a, e] [] pos) (tI X.K Tb W m oc (peekI .rng2 as oc fs)) := by
  subst hx
  rw [peekI_other (fun z => by cases z)]
  refine (pi_range2 hg hm hs (by rw [star_cons hst, star_cons hst2]; rfl) (star_cons hst2 [] X.env)).weaken fun σ H R ⟨ρ, k, w, h⟩ => ⟨ρ, k, w, pG_mono (pG_bind h) hms fun ds ρ1 k1 H1 t1 w1 q vs hvs => ?_⟩
  obtain ⟨xs, ee, g⟩ := pG_itD (ds := ds) q w1
  match ds, hvs, ee with
  | [.int i, .int j], hvs, ee =>
    cases hvs with
    | cons h1 h2 =>
      obtain ⟨v, rfl, hv⟩ := one_dp h2
      have ee : (if (rngOk i && rngOk j) = true then some (rangeD i (j - i).toNat) else none) = some xs := ee
      by_cases hc : (rngOk i && rngOk j) = true
      · rw [if_pos hc] at ee
        cases ee
        unfold rngOk at hc
        simp only [Bool.and_eq_true, decide_eq_true_eq] at hc
        exact ⟨i, j, by rw [dp_int h1, dp_int hv], ⟨hc.1.1, hc.1.2, hc.2.1, hc.2.2⟩, g _ _ yl_range (.inl rfl)⟩
      · rw [if_neg hc] at ee; cases ee
theorem i_enum {x : Str} {as : Ex} {elts : List Expr} {kk : Nat} {tpos : Pos} (hg : Gl X x) (hx : x = "enumerate") (hm : X.mg x = none) (hs : PA X [a] (tA X.K Tb W ms fs)) (hst : noStar a = true) (hms : ∀ i, ms i = true → m i = true) :
    PI X (.Tuple elts kk tpos) (.Call (.Name x p) [a] [] pos) (tI X.K Tb W m oc (peekI .enum as oc fs)) := by
  subst hx
  rw [peekI_other (fun z => by cases z)]
  refine (pi_enumA hg hm hs (star_cons hst [] X.env)).weaken fun σ H R ⟨ρ, k, w, h⟩ => ⟨ρ, k, w, pG_mono (pG_bind h) hms fun ds ρ1 k1 H1 t1 w1 q vs hvs => ?_⟩
  obtain ⟨xs, ee, g⟩ := pG_itD (ds := ds) q w1
  match ds, hvs, ee with
  | [.list ys], hvs, ee =>
    obtain ⟨v, rfl, hv⟩ := one_dp hvs
    cases ee
    cases hv with
    | lst g1 g2 => exact ⟨_, rfl, .inl ⟨⟨_, w1.sub.seq g1⟩, g _ _ (yl_enum g1 g2) (.inl rfl)⟩⟩
  | [.tuple ys], hvs, ee =>
    obtain ⟨v, rfl, hv⟩ := one_dp hvs
    cases ee
    cases hv with
    | tup g1 g2 => exact ⟨_, rfl, .inr ⟨⟨_, sqt_mono w1.sub g1⟩, g _ _ (yl_enumT g1 g2) (.inl rfl)⟩⟩
theorem i_zip {x : Str} {as : Ex} {elts : List Expr} {kk : Nat} {tpos : Pos} (hg : Gl X x) (hx : x = "zip") (hm : X.mg x = none) (hs : PA X [a, e] (tA X.K Tb W ms fs)) (hst : noStar a = true) (hst2 : noStar e = true) (hms : ∀ i, ms i = true → m i = true) :
    PI X (.Tuple elts kk tpos) (.Call (.Name x p) [a, e] [] pos) (tI X.K Tb W m oc (peekI .zip as oc fs)) := by
  subst hx
  rw [peekI_other (fun z => by cases z)]
  refine (pi_zip hg hm hs (star_cons hst _ X.env) (plain_all pos (by rw [List.all_cons, hst2]; rfl))).weaken fun σ H R ⟨ρ, k, w, h⟩ => ⟨ρ, k, w, pG_mono (pG_bind h) hms fun ds ρ1 k1 H1 t1 w1 q vs hvs => ?_⟩
  obtain ⟨xs, ee, g⟩ := pG_itD (ds := ds) q w1
  match ds, hvs, ee with
  | [.list ys, .list zs], hvs, ee =>
    cases hvs with
    | cons h1 h2 =>
      obtain ⟨v, rfl, hv⟩ := one_dp h2
      cases ee
      cases h1 with
      | lst g1 g2 => cases hv with
        | lst g3 g4 => exact ⟨_, _, _, _, rfl, w1.sub.seq g1, w1.sub.seq g3, g _ _ (yl_zip g1 g2 g3 g4) (.inl rfl)⟩
end

/-! ### slots wiped, slots as they were -/
theorem wipeR_len (ρ : Rho) : ∀ vs : List Nat, (wipeR ρ vs).length = ρ.length
  | [] => rfl
  | v :: vs => by unfold wipeR; rw [List.length_set, wipeR_len ρ vs]
theorem wipeR_out {ρ : Rho} {i : Nat} : ∀ {vs : List Nat}, i ∉ vs → (wipeR ρ vs)[i]? = ρ[i]?
  | [], _ => rfl
  | v :: vs, h => by
    rw [List.mem_cons, not_or] at h
    unfold wipeR
    rw [List.getElem?_set_ne (Ne.symm h.1), wipeR_out h.2]
theorem wipeR_in {ρ : Rho} {i : Nat} : ∀ {vs : List Nat}, i ∈ vs → i < ρ.length → (wipeR ρ vs)[i]? = some .no
  | v :: vs, h, hi => by
    unfold wipeR
    by_cases z : v = i
    · subst z; rw [List.getElem?_set_self (by rw [wipeR_len]; exact hi)]
    · rw [List.getElem?_set_ne z]
      exact wipeR_in ((List.mem_cons.mp h).resolve_left (Ne.symm z)) hi
theorem wipeR_some {ρ : Rho} {i : Nat} {s : Sl} {vs : List Nat} (h : (wipeR ρ vs)[i]? = some s) (hs : s ≠ .no) : i ∉ vs ∧ ρ[i]? = some s := by
  by_cases z : i ∈ vs
  · by_cases hi : i < ρ.length
    · rw [wipeR_in z hi] at h; exact absurd (Option.some.inj h).symm hs
    · rw [List.getElem?_eq_none (by rw [wipeR_len]; omega)] at h; cases h
  · exact ⟨z, by rw [wipeR_out z] at h; exact h⟩
theorem backR_len (ρ0 ρ : Rho) : ∀ vs : List Nat, (backR ρ0 ρ vs).length = ρ.length
  | [] => rfl
  | v :: vs => by unfold backR; rw [List.length_set, backR_len ρ0 ρ vs]
theorem backR_out {ρ0 ρ : Rho} {i : Nat} : ∀ {vs : List Nat}, i ∉ vs → (backR ρ0 ρ vs)[i]? = ρ[i]?
  | [], _ => rfl
  | v :: vs, h => by
    rw [List.mem_cons, not_or] at h
    unfold backR
    rw [List.getElem?_set_ne (Ne.symm h.1), backR_out h.2]
theorem backR_in {ρ0 ρ : Rho} {i : Nat} : ∀ {vs : List Nat}, i ∈ vs → i < ρ.length → (backR ρ0 ρ vs)[i]? = some ((ρ0[i]?).getD .no)
  | v :: vs, h, hi => by
    unfold backR
    by_cases z : v = i
    · subst z; rw [List.getElem?_set_self (by rw [backR_len]; exact hi)]
    · rw [List.getElem?_set_ne z]
      exact backR_in ((List.mem_cons.mp h).resolve_left (Ne.symm z)) hi
theorem wipe_in {σ : L2.St} {i : Nat} : ∀ {vs : List Nat}, i ∈ vs → i < σ.length → (wipe σ vs)[i]? = some none
  | v :: vs, h, hi => by
    unfold wipe
    by_cases z : v = i
    · subst z; rw [List.getElem?_set_self (by rw [wipe_length]; exact hi)]
    · rw [List.getElem?_set_ne z]
      exact wipe_in ((List.mem_cons.mp h).resolve_left (Ne.symm z)) hi
theorem wipe_eq {σ σ1 : L2.St} {vs : List Nat} (hl : σ1.length = σ.length) (h : ∀ i, i ∉ vs → σ1[i]? = σ[i]?) : wipe σ1 vs = wipe σ vs := by
  refine List.ext_getElem? fun i => ?_
  by_cases z : i ∈ vs
  · by_cases hi : i < σ.length
    · rw [wipe_in z hi, wipe_in z (by rw [hl]; exact hi)]
    · rw [List.getElem?_eq_none (by rw [wipe_length, hl]; omega), List.getElem?_eq_none (by rw [wipe_length]; omega)]
  · rw [wipe_out z, wipe_out z, h i z]
section
variable {K : PySem.W.Frag} {T : Tbs} {σ σ1 : L2.St} {ρ ρ1 ρ2 : Rho} {k k1 k2 H H1 H2 : Hp} {vs : List Nat}
theorem own_wipe {i : Nat} {a : Addr} (o : Own (wipe σ vs) (wipeR ρ vs) i a) : i ∉ vs ∧ Own σ ρ i a := by
  obtain ⟨⟨d, e1⟩, e2⟩ := o
  obtain ⟨h1, h2⟩ := wipeR_some e1 (fun z => by cases z)
  rw [wipe_out h1] at e2
  exact ⟨h1, ⟨d, h2⟩, e2⟩
theorem wf_wipe (w : WF K T σ ρ k H) : WF K T (wipe σ vs) (wipeR ρ vs) k H where
  sub := w.sub
  ntb := w.ntb
  tab := w.tab
  len := by rw [wipeR_len, wipe_length]; exact w.len
  val := fun i d e => by
    obtain ⟨h1, h2⟩ := wipeR_some e (fun z => by cases z)
    obtain ⟨v, g1, g2⟩ := w.val i d h2
    exact ⟨v, by rw [wipe_out h1]; exact g1, g2⟩
  own := fun i d e => by
    obtain ⟨h1, h2⟩ := wipeR_some e (fun z => by cases z)
    obtain ⟨a, g1, g2⟩ := w.own i d h2
    exact ⟨a, by rw [wipe_out h1]; exact g1, g2⟩
  dis := fun i j a o1 o2 => w.dis i j a (own_wipe o1).2 (own_wipe o2).2
/-- slots forgotten; the rest as it stood elsewhere -/
theorem wf_rewipe {σw : L2.St} (w : WF K T σ1 ρ k H) (hl : σw.length = σ1.length) (h : ∀ i, i ∉ vs → σ1[i]? = σw[i]?) : WF K T σw (wipeR ρ vs) k H where
  sub := w.sub
  ntb := w.ntb
  tab := w.tab
  len := by rw [wipeR_len, w.len, hl]
  val := fun i d e => by
    obtain ⟨h1, h2⟩ := wipeR_some e (fun z => by cases z)
    obtain ⟨v, g1, g2⟩ := w.val i d h2
    exact ⟨v, by rw [← h i h1]; exact g1, g2⟩
  own := fun i d e => by
    obtain ⟨h1, h2⟩ := wipeR_some e (fun z => by cases z)
    obtain ⟨a, g1, g2⟩ := w.own i d h2
    exact ⟨a, by rw [← h i h1]; exact g1, g2⟩
  dis := fun i j a o1 o2 => by
    have lift : ∀ {i}, Own σw (wipeR ρ vs) i a → Own σ1 ρ i a := fun {i} o => by
      obtain ⟨⟨d, e1⟩, e2⟩ := o
      obtain ⟨h1, h2⟩ := wipeR_some e1 (fun z => by cases z)
      exact ⟨⟨d, h2⟩, by rw [h i h1]; exact e2⟩
    exact w.dis i j a (lift o1) (lift o2)

/-- what may have changed: os -/
structure TrG (T : Tbs) (os : Addr → Prop) (k H k1 H1 : Hp) : Prop where
  kk : Same k k1
  new : ∀ a, k1 a ≠ none → k a ≠ none ∨ H a = none ∨ os a
  frm : ∀ a o, H a = some o → (∀ ps, o ≠ .tbl ps) → H1 a = some o ∨ os a
  dom : ∀ a, H a ≠ none → H1 a ≠ none
  tb : Tabs T H → Tabs T H1
theorem TrG.trans {os : Addr → Prop} (t : TrG T os k H k1 H1) (u : TrG T os k1 H1 k2 H2) : TrG T os k H k2 H2 where
  kk := t.kk.trans u.kk
  new := fun a h => by
    rcases u.new a h with q | q | q
    · exact t.new a q
    · refine .inr (.inl ?_)
      cases z : H a with
      | none => rfl
      | some x => exact absurd q (t.dom a (by rw [z]; exact fun z => by cases z))
    · exact .inr (.inr q)
  frm := fun a o h n => by
    rcases t.frm a o h n with q | q
    · exact u.frm a o q n
    · exact .inr q
  dom := fun a h => u.dom a (t.dom a h)
  tb := fun h => u.tb (t.tb h)
theorem Tr.g {os : Addr → Prop} {ms : Nat → Bool} (t : Tr T ms σ ρ k H ρ1 k1 H1) (h : ∀ i a, ms i = true → Own σ ρ i a → os a) : TrG T os k H k1 H1 :=
  ⟨t.kk, fun a q => (t.new a q).imp id (Or.imp id fun ⟨i, e, o⟩ => h i a e o), fun a o q n => (t.frm a o q n).imp id fun ⟨i, e, o⟩ => h i a e o, t.dom, t.tb⟩
theorem Px.g {os : Addr → Prop} (p : Px k H k1 H1) : TrG T os k H k1 H1 :=
  ⟨p.kk, fun a h => (p.new a h).imp id .inl, fun a o h _ => .inl (p.hh a o h), Same.dom p.hh, fun h => h.ext p.hh⟩
/-- the list at D gets another content -/
theorem upd_g {os : Addr → Prop} {D : Addr} {xs ys : List V} (hD : H D = some (.lst xs)) (h : os D) : TrG T os k H k (upd H D (.lst ys)) where
  kk := fun _ _ h => h
  new := fun _ h => .inl h
  frm := fun a o q _ => by
    by_cases z : a = D
    · subst z; exact .inr h
    · rw [upd_ne z]; exact .inl q
  dom := fun a q => by
    by_cases z : a = D
    · subst z; rw [upd_same]; exact fun z => by cases z
    · rw [upd_ne z]; exact q
  tb := fun ht p hp => by
    obtain ⟨ps, h1, h2, h3⟩ := ht p hp
    have ne : p.1 ≠ D := fun z => by rw [z, hD] at h1; cases h1
    refine ⟨ps, by rw [upd_ne ne]; exact h1, h2, fun pos cv hc => ?_⟩
    obtain ⟨c, e1, e2⟩ := h3 pos cv hc
    have ne2 : c ≠ D := fun z => by rw [z, hD] at e2; cases e2
    exact ⟨c, e1, by rw [upd_ne ne2]; exact e2⟩
/-- a thing that no slot holds and k does not tell gets another content -/
theorem wf_side {D : Addr} {xs ys : List V} (w : WF K T σ ρ k H) (hk : k D = none) (ho : ∀ i, ¬ Own σ ρ i D) (hD : H D = some (.lst xs)) : WF K T σ ρ k (upd H D (.lst ys)) where
  sub := fun b o hb => by
    have ne : b ≠ D := fun z => by subst z; rw [hk] at hb; cases hb
    rw [upd_ne ne]; exact w.sub b o hb
  ntb := w.ntb
  tab := (upd_g (os := fun _ => True) (k := k) hD trivial).tb w.tab
  len := w.len
  val := w.val
  own := fun i d e => by
    obtain ⟨a, g1, g2, g3⟩ := w.own i d e
    have ne : a ≠ D := fun z => by subst z; exact ho i ⟨⟨d, e⟩, g1⟩
    exact ⟨a, g1, g2, g3.mono (fun _ _ h => h) fun o q _ => by rw [upd_ne ne]; exact q⟩
  dis := w.dis
end

/-! ### [e for t in s if c] -/
abbrev W0 : XW := fun _ _ _ => False
def tTs (K : PySem.W.Frag) (T : Tbs) (ms : Nat → Bool) (f : Rho → R (Bool × Rho)) : TT := fun σ H Q => ∃ ρ k, WF K T σ ρ k H ∧ pG K T W0 ms σ ρ k H (f ρ) fun b _ _ H1 => Q b H1
theorem pG_if' {K : PySem.W.Frag} {Tb : Tbs} {W : XW} {m : Nat → Bool} {α : Type} {c : Prop} [Decidable c] {σ : L2.St} {ρ : Rho} {k H : Hp} {r : R (α × Rho)} {G : α → Rho → Hp → Hp → Prop} (h : pG K Tb W m σ ρ k H (if c then r else .bad) G) : c ∧ pG K Tb W m σ ρ k H r G := by
  by_cases hc : c
  · rw [if_pos hc] at h; exact ⟨hc, h⟩
  · rw [if_neg hc] at h; exact h.elim
theorem i_lc {K : PySem.W.Frag} {Tb : Tbs} {W : XW} {m ms mc me oc : Nat → Bool} {t : Tg} {fI : Rho → R (List D × Rho)} {fc : Rho → R (Bool × Rho)} {fe : Rho → R (D × Rho)} {σ : L2.St} {H : Hp} {Q : VK}
    (h1 : ∀ i, ms i = true → m i = true) (h2 : ∀ i, mc i = true → oc i = true) (h3 : ∀ i, me i = true → oc i = true) (h4 : ∀ i, i ∈ t.slots → oc i = true) (h5 : ∀ i, oc i = true → m i = true)
    (hh : tF K Tb W m (fun ρ => (fI ρ).bind fun (xs, ρ1) => if xs.length ≤ line then
      (noX (lcGo (bindT t) fc fe t.slots xs (wipeR ρ1 t.slots))).bind fun (ys, ρ2) => .ok (.list ys, backR ρ1 ρ2 t.slots) else .bad) σ H Q) :
    tLc (tI K Tb W ms oc fI) (tG K Tb t) (tTs K Tb mc fc) (tE K Tb W0 me fe) t.slots σ H Q := by
  obtain ⟨ρ, k, w, h⟩ := hh
  refine ⟨ρ, k, w, pG_mono (pG_bind h) h1 fun xs ρ1 k1 H1 t1 w1 g J P yl pok D hD => ?_⟩
  obtain ⟨hl, g⟩ := pG_if' g
  dsimp only at g
  cases eL : lcGo (bindT t) fc fe t.slots xs (wipeR ρ1 t.slots) with
  | bad => rw [eL] at g; exact g.elim
  | exc c => rw [eL] at g; exact g.elim
  | ok r =>
    obtain ⟨ys, ρ2⟩ := r
    rw [eL] at g
    have g : ∀ k2 H2, Tr Tb m σ ρ1 k1 H1 (backR ρ1 ρ2 t.slots) k2 H2 → WF K Tb σ (backR ρ1 ρ2 t.slots) k2 H2 → ∀ p, H p = none → k2 p = none → OwnRep K k2 H2 p (.list ys) → Q (.ref p) H2 := g
    generalize hws : t.slots = ws at *
    have ww : WF K Tb (wipe σ ws) (wipeR ρ1 ws) k1 H1 := wf_wipe w1
    have hD0 : ∀ i, ¬ Own (wipe σ ws) (wipeR ρ1 ws) i D := fun i o => ww.ownNe o hD
    have hk1D : k1 D = none := sub_none w1.sub hD
    -- os: the own things that the turns touch, and the new list
    let os : Addr → Prop := fun a => (∃ i, oc i = true ∧ Own (wipe σ ws) (wipeR ρ1 ws) i a) ∨ a = D
    let Inv' : Nat → Hp → Prop := fun i H' => i ≤ xs.length ∧ ∃ ρ' k' acc accD ys', WF K Tb (wipe σ ws) ρ' k' H' ∧ TrG Tb os k1 H1 k' H' ∧ (∀ j, oc j = false → ρ'[j]? = (wipeR ρ1 ws)[j]?) ∧
      (∀ j a, Own (wipe σ ws) ρ' j a → Own (wipe σ ws) (wipeR ρ1 ws) j a) ∧ k' D = none ∧ H' D = some (.lst acc) ∧ DpAll K k' acc accD ∧ acc.length ≤ i ∧
      lcGo (bindT t) fc fe ws (xs.drop i) ρ' = .ok (ys', ρ2) ∧ ys = accD ++ ys'
    refine ⟨fun i mm H' => mm = xs.length - i ∧ Inv' i H', ⟨xs.length, by omega, Nat.zero_le _, wipeR ρ1 ws, k1, [], [], ys, ?_⟩, ?_⟩
    · have px := Px.hide w1.sub hD (o := .lst [])
      exact ⟨ww.px px, px.g, fun _ _ => rfl, fun _ _ o => o, hk1D, upd_same, .nil, Nat.le_refl _, by rw [List.drop_zero]; exact eL, rfl⟩
    rintro i mm H' ⟨rfl, hi, ρ', k', acc, accD, ys', w', tr', sl', ow', kD, HD, dacc, lacc, eG, eY⟩
    have pP : P k' H' := by
      rcases pok with rfl | ⟨j, a, us, o1, o2, o3, rfl⟩
      · exact tr'.kk
      · refine ⟨tr'.kk, (tr'.frm a _ o3 (fun ps z => by cases z)).elim id fun q => ?_⟩
        rcases q with ⟨j', q1, q2⟩ | q
        · have := w1.dis j j' a o2 (own_wipe q2).2
          subst this
          rw [o1] at q1; cases q1
        · subst q; rw [hD] at o3; cases o3
    by_cases hlt : i < xs.length
    · have hx : xs[i]? = some xs[i] := List.getElem?_eq_getElem hlt
      obtain ⟨jgo, jy⟩ := yl.go i k' H' _ hx w'.sub pP
      rw [List.drop_eq_getElem_cons hlt] at eG
      refine .inr ⟨jgo, Inv' (i + 1), fun H'' q => ⟨xs.length - (i + 1), by omega, rfl, q⟩, fun y Hy hy => ?_⟩
      obtain ⟨ka, px, dy⟩ := jy y Hy hy
      have wa := w'.px px
      unfold lcGo at eG
      cases eb : bindT t xs[i] ρ' with
      | bad => rw [eb] at eG; cases eG
      | exc c => rw [eb] at eG; cases eG
      | ok ρa =>
        rw [eb] at eG
        refine ⟨ρ', ka, xs[i], ρa, wa, dy, eb, fun σ1 wf1 ag => ?_⟩
        rw [hws] at ag
        have eσ : wipe σ1 ws = wipe σ ws := by
          refine wipe_eq (by rw [ag.len, wipe_length]) fun j hj => ?_
          rw [(ag.els j hj).1, wipe_out hj]
        refine ⟨eσ, ρa, ka, wf1, ?_⟩
        have eG : (fc ρa).bind (fun (b, ρ2) => if b = true then (fe ρ2).bind fun (y, ρ3) => (lcGo (bindT t) fc fe ws (xs.drop (i + 1)) (wipeR ρ3 ws)).bind fun (ys, ρ4) => .ok (y :: ys, ρ4)
          else lcGo (bindT t) fc fe ws (xs.drop (i + 1)) (wipeR ρ2 ws)) = .ok (ys', ρ2) := eG
        cases ec : fc ρa with
        | bad => rw [ec] at eG; cases eG
        | exc c => rw [ec] at eG; cases eG
        | ok rb =>
          obtain ⟨b, ρb⟩ := rb
          rw [ec] at eG
          intro kb Hb tb wb
          have oa : ∀ j a, Own σ1 ρa j a → Own (wipe σ ws) (wipeR ρ1 ws) j a := fun j a o => ow' j a (ag.own j a o)
          have tgb : TrG Tb os k1 H1 kb Hb := (tr'.trans px.g).trans (tb.g fun j a e o => .inl ⟨j, h2 j e, oa j a o⟩)
          have HDy : Hy D = some (.lst acc) := px.hh D _ HD
          have noD : ∀ j, ¬ Own σ1 ρa j D := fun j o => hD0 j (oa j D o)
          have HDb : Hb D = some (.lst acc) := (tb.frm D _ HDy (fun ps z => by cases z)).elim id fun ⟨j, _, o⟩ => absurd o (noD j)
          have keepD : ∀ {ks : Hp} {Hs : Hp}, TrG Tb os k1 H1 ks Hs → True := fun _ => trivial
          have kaD : ka D = none := by
            cases z : ka D with
            | none => rfl
            | some o => rcases px.new D (by rw [z]; exact fun z => by cases z) with q | q
                        · exact absurd kD q
                        · rw [HD] at q; cases q
          have kbD : kb D = none := by
            cases z : kb D with
            | none => rfl
            | some o =>
              rcases tb.new D (by rw [z]; exact fun z => by cases z) with q | q | ⟨j, _, o⟩
              · exact absurd kaD q
              · rw [HDy] at q; cases q
              · exact absurd o (noD j)
          cases b with
          | false =>
            have eG : lcGo (bindT t) fc fe ws (xs.drop (i + 1)) (wipeR ρb ws) = .ok (ys', ρ2) := eG
            dsimp only
            rw [if_neg Bool.false_ne_true]
            have els : ∀ j, j ∉ ws → σ1[j]? = (wipe σ ws)[j]? := fun j hj => (ag.els j hj).1
            refine ⟨hlt, wipeR ρb ws, kb, acc, accD, ys', wf_rewipe wb ag.len.symm els, tgb, fun j hj => ?_, fun j a o => ?_, kbD, HDb, dps_mono (px.kk.trans tb.kk) dacc, Nat.le_succ_of_le lacc, eG, eY⟩
            · have nj : j ∉ ws := fun z => by rw [h4 j z] at hj; cases hj
              have mj : mc j = false := by
                cases z : mc j with
                | false => rfl
                | true => rw [h2 j z] at hj; cases hj
              rw [wipeR_out nj, tb.slt j mj, (ag.els j nj).2, sl' j hj]
            · obtain ⟨⟨d, e1⟩, e2⟩ := o
              obtain ⟨q1, q2⟩ := wipeR_some e1 (fun z => by cases z)
              exact oa j a (tb.own j a ⟨⟨d, q2⟩, by rw [els j q1]; exact e2⟩)
          | true =>
            dsimp only
            rw [if_pos rfl]
            have eG : (fe ρb).bind (fun (y, ρ3) => (lcGo (bindT t) fc fe ws (xs.drop (i + 1)) (wipeR ρ3 ws)).bind fun (ys, ρ4) => .ok (y :: ys, ρ4)) = .ok (ys', ρ2) := eG
            cases ee : fe ρb with
            | bad => rw [ee] at eG; cases eG
            | exc c => rw [ee] at eG; cases eG
            | ok rc =>
              obtain ⟨yd, ρc⟩ := rc
              rw [ee] at eG
              have eG : (lcGo (bindT t) fc fe ws (xs.drop (i + 1)) (wipeR ρc ws)).bind (fun (ys, ρ4) => .ok (yd :: ys, ρ4)) = .ok (ys', ρ2) := eG
              refine ⟨ρb, kb, wb, ?_⟩
              rw [ee]
              intro kc Hc tc wc v hv
              have tgc : TrG Tb os k1 H1 kc Hc := tgb.trans (tc.g fun j a e o => .inl ⟨j, h3 j e, oa j a (tb.own j a o)⟩)
              have HDc : Hc D = some (.lst acc) := (tc.frm D _ HDb (fun ps z => by cases z)).elim id fun ⟨j, _, o⟩ => absurd (tb.own j D o) (noD j)
              have kcD : kc D = none := by
                cases z : kc D with
                | none => rfl
                | some o =>
                  rcases tc.new D (by rw [z]; exact fun z => by cases z) with q | q | ⟨j, _, o⟩
                  · exact absurd kbD q
                  · rw [HDb] at q; cases q
                  · exact absurd (tb.own j D o) (noD j)
              cases er : lcGo (bindT t) fc fe ws (xs.drop (i + 1)) (wipeR ρc ws) with
              | bad => rw [er] at eG; cases eG
              | exc c => rw [er] at eG; cases eG
              | ok rd =>
                obtain ⟨zs, ρd⟩ := rd
                rw [er] at eG
                cases eG
                have els : ∀ j, j ∉ ws → σ1[j]? = (wipe σ ws)[j]? := fun j hj => (ag.els j hj).1
                have oc' : ∀ j a, Own (wipe σ ws) (wipeR ρc ws) j a → Own (wipe σ ws) (wipeR ρ1 ws) j a := fun j a o => by
                  obtain ⟨⟨d, e1⟩, e2⟩ := o
                  obtain ⟨q1, q2⟩ := wipeR_some e1 (fun z => by cases z)
                  exact oa j a (tb.own j a (tc.own j a ⟨⟨d, q2⟩, by rw [els j q1]; exact e2⟩))
                refine ⟨acc, HDc, by rw [line_eq]; omega, hlt, wipeR ρc ws, kc, acc ++ [v], accD ++ [yd], zs, wf_side (wf_rewipe wc ag.len.symm els) kcD (fun j o => hD0 j (oc' j D o)) HDc,
                  tgc.trans (upd_g HDc (.inr rfl)), fun j hj => ?_, oc', kcD, upd_same, (dps_mono (px.kk.trans (tb.kk.trans tc.kk)) dacc).appD (.cons hv .nil), by rw [List.length_append, List.length_singleton]; omega, er, by rw [eY, List.append_assoc]; rfl⟩
                have nj : j ∉ ws := fun z => by rw [h4 j z] at hj; cases hj
                have mj : mc j = false := by
                  cases z : mc j with
                  | false => rfl
                  | true => rw [h2 j z] at hj; cases hj
                have ej : me j = false := by
                  cases z : me j with
                  | false => rfl
                  | true => rw [h3 j z] at hj; cases hj
                rw [wipeR_out nj, tc.slt j ej, tb.slt j mj, (ag.els j nj).2, sl' j hj]
    · have ei : i = xs.length := by omega
      subst ei
      refine .inl ⟨yl.stop _ k' H' (Nat.le_refl _) w'.sub pP, ?_⟩
      rw [List.drop_length] at eG
      unfold lcGo at eG
      obtain ⟨hy, hr⟩ := Prod.mk.inj (R.ok.inj eG)
      subst hy
      subst hr
      rw [List.append_nil] at eY
      subst eY
      have bl : (backR ρ1 ρ' ws).length = σ.length := by rw [backR_len, w'.len, wipe_length]
      have l1 : ρ'.length = σ.length := by rw [w'.len, wipe_length]
      have getIn : ∀ j, j ∈ ws → (backR ρ1 ρ' ws)[j]? = ρ1[j]? := fun j hj => by
        by_cases hjl : j < ρ'.length
        · rw [backR_in hj hjl]
          have : j < ρ1.length := by rw [w1.len, ← l1]; exact hjl
          rw [List.getElem?_eq_getElem this]; rfl
        · rw [List.getElem?_eq_none (by rw [backR_len]; omega), List.getElem?_eq_none (by rw [w1.len, ← l1]; omega)]
      have ownB : ∀ j a, Own σ (backR ρ1 ρ' ws) j a → Own σ ρ1 j a := fun j a o => by
        obtain ⟨⟨d, e1⟩, e2⟩ := o
        by_cases hj : j ∈ ws
        · rw [getIn j hj] at e1; exact ⟨⟨d, e1⟩, e2⟩
        · rw [backR_out hj] at e1
          exact (own_wipe (ow' j a ⟨⟨d, e1⟩, by rw [wipe_out hj]; exact e2⟩)).2
      refine g k' H' ⟨tr'.kk, fun a q => ?_, fun a o q n => ?_, tr'.dom, fun j hj => ?_, ownB, tr'.tb⟩ ⟨w'.sub, w'.ntb, w'.tab, bl, fun j d e => ?_, fun j d e => ?_, fun j j' a o1 o2 => w1.dis j j' a (ownB j a o1) (ownB j' a o2)⟩ D (back_none t1 hD) kD ⟨acc, HD, dacc⟩
      · rcases tr'.new a q with z | z | z | z
        · exact .inl z
        · exact .inr (.inl z)
        · obtain ⟨j, e, o⟩ := z
          exact .inr (.inr ⟨j, h5 j e, (own_wipe o).2⟩)
        · subst z; exact absurd kD q
      · rcases tr'.frm a o q n with z | z | z
        · exact .inl z
        · obtain ⟨j, e, o⟩ := z
          exact .inr ⟨j, h5 j e, (own_wipe o).2⟩
        · subst z; rw [hD] at q; cases q
      · have oj : oc j = false := by
          cases z : oc j with
          | false => rfl
          | true => rw [h5 j z] at hj; cases hj
        have nj : j ∉ ws := fun z => by rw [h4 j z] at oj; cases oj
        rw [backR_out nj, sl' j oj, wipeR_out nj]
      · by_cases hj : j ∈ ws
        · rw [getIn j hj] at e
          obtain ⟨v, g1, g2⟩ := w1.val j d e
          exact ⟨v, g1, dp_mono tr'.kk g2⟩
        · rw [backR_out hj] at e
          obtain ⟨v, g1, g2⟩ := w'.val j d e
          rw [wipe_out hj] at g1
          exact ⟨v, g1, g2⟩
      · by_cases hj : j ∈ ws
        · rw [getIn j hj] at e
          obtain ⟨a, g1, g2, g3⟩ := w1.own j d e
          obtain ⟨u, g4, g5⟩ := g3.there
          have notOs : ¬ os a := fun z => by
            rcases z with ⟨j', _, o⟩ | z
            · obtain ⟨n1, o⟩ := own_wipe o
              exact n1 (w1.dis j j' a ⟨⟨d, e⟩, g1⟩ o ▸ hj)
            · subst z; rw [hD] at g4; cases g4
          refine ⟨a, g1, ?_, g3.mono tr'.kk fun o q n => (tr'.frm a o q n).resolve_right notOs⟩
          cases z : k' a with
          | none => rfl
          | some o =>
            rcases tr'.new a (by rw [z]; exact fun z => by cases z) with q | q | q
            · exact absurd g2 q
            · rw [g4] at q; cases q
            · exact absurd q notOs
        · rw [backR_out hj] at e
          obtain ⟨a, g1, g2⟩ := w'.own j d e
          rw [wipe_out hj] at g1
          exact ⟨a, g1, g2⟩
theorem f_lc {X : Cx} {Tb : Tbs} {W : XW} {m ms mc me oc : Nat → Bool} {t : Tg} {fI : Rho → R (List D × Rho)} {fc : Rho → R (Bool × Rho)} {fe : Rho → R (D × Rho)} {elt tg iter : Expr} {ifs : List Expr} {scope : Scope} {own : List (Str × Nat)} {pos : Pos}
    (hc : X.calm = true) (hN : X.N.Nodup) (hi : PI X tg iter (tI X.K Tb W ms oc fI)) (ok : BlkOk X.N X.env.scope scope own) (hown : own.map (·.2) = t.slots)
    (hg : ∀ (s : Shared) (H : Hp) (C : Addr) (cl : List (Str × Addr)) (fp : List Addr), PG (X.blk s H scope (compEnvC scope cl C X.env) fp) tg (tG X.K Tb t))
    (ht : ∀ (s : Shared) (H : Hp) (C : Addr) (cl : List (Str × Addr)) (fp : List Addr), PTs (X.blk s H scope (compEnvC scope cl C X.env) fp) ifs (tTs X.K Tb mc fc))
    (he : ∀ (s : Shared) (H : Hp) (C : Addr) (cl : List (Str × Addr)) (fp : List Addr), PE (X.blk s H scope (compEnvC scope cl C X.env) fp) elt (tE X.K Tb W0 me fe))
    (hst : noSet iter = true) (h1 : ∀ i, ms i = true → m i = true) (h2 : ∀ i, mc i = true → oc i = true) (h3 : ∀ i, me i = true → oc i = true) (h4 : ∀ i, i ∈ t.slots → oc i = true) (h5 : ∀ i, oc i = true → m i = true) :
    PE X (.ListComp elt [⟨tg, iter, ifs, 0⟩] scope pos) (tF X.K Tb W m fun ρ => (fI ρ).bind fun (xs, ρ1) => if xs.length ≤ line then
      (noX (lcGo (bindT t) fc fe t.slots xs (wipeR ρ1 t.slots))).bind fun (ys, ρ2) => .ok (.list ys, backR ρ1 ρ2 t.slots) else .bad) := by
  refine (pe_lc hc hN hi ok hg ht he (folded_of hst X.env)).weaken fun σ H Q h => ?_
  rw [hown]
  exact i_lc h1 h2 h3 h4 h5 h
end Fo

set_option Elab.async false
set_option linter.all false
set_option maxRecDepth 100000
set_option maxHeartbeats 4000000
/-! SemB7: which expressions of the text an expression of ours stands for. -/
namespace Fo
open PySem L2 LamX PyProof.Rows

def isB : BOp → Operator → Bool
  | .add, .Add | .sub, .Sub | .mul, .Mult | .fdiv, .FloorDiv | .mod, .Mod | .pow, .Pow => true
  | _, _ => false
theorem isB_of {o : BOp} {p : Operator} (h : isB o p = true) : p = opB o := by
  cases o <;> cases p <;> first | rfl | cases h
def isC : COp → CmpOp → Bool
  | .eq, .Eq | .ne, .NotEq | .lt, .Lt | .le, .LtE | .gt, .Gt | .ge, .GtE | .isin, .In | .notin, .NotIn => true
  | _, _ => false
theorem isC_of {o : COp} {p : CmpOp} (h : isC o p = true) : p = opC o := by
  cases o <;> cases p <;> first | rfl | cases h
def isN (neg : Bool) : CmpOp → Bool
  | .Is => !neg
  | .IsNot => neg
  | _ => false
theorem isN_op {neg : Bool} {p : CmpOp} (h : isN neg p = true) : p = if neg = true then .IsNot else .Is := by
  cases neg <;> cases p <;> first | rfl | cases h
def ownOf (N : List Str) (t : Tg) : List (Str × Nat) := t.slots.map fun i => ((N[i]?).getD "", i)
theorem ownOf_map {N : List Str} {t : Tg} : (ownOf N t).map (·.2) = t.slots := by
  unfold ownOf
  rw [List.map_map]
  exact List.map_id _
def lcB (sc scope : Scope) (x : Str) : Bool := match (relS scope sc).names.lookup x with
  | some .local => true
  | some .cell => scope.names.lookup x == some .cell
  | _ => false
def nameOk (sc : Scope) (x : Str) : Bool := ckG sc x x
/-- a built-in's name -/
def biN : Bi → String
  | .len => "len" | .abs => "abs" | .int => "int" | .str => "str" | .list => "list" | .tuple => "tuple" | .all => "all" | .any => "any" | .bool => "bool" | .min2 => "min" | .sset => "set" | .lset => "len" | .minl => "min" | .sorted => "sorted"
def biT : Bi → Bool
  | .int | .list | .tuple | .bool | .str => true
  | _ => false
def biK : Bi → Bool
  | .sset | .lset | .minl | .sorted => false
  | _ => true
def meN : Me → String
  | .split => "split" | .join => "join" | .index => "index"
def isStrC (s : Str) : Option Expr → Bool
  | some (.Constant (.str x) _ _) => decide (s = x)
  | _ => false
def dks : List Str → List (Option Expr) → Bool
  | [], [] => true
  | s :: ks, e :: es => isStrC s e && dks ks es
  | _, _ => false
theorem dks_of : ∀ {ks : List Str} {es : List (Option Expr)}, dks ks es = true → DisK ks es
  | [], [], _ => .nil
  | s :: ks, e :: es, h => by
    unfold dks at h
    rw [Bool.and_eq_true] at h
    obtain ⟨h1, h2⟩ := h
    unfold isStrC at h1
    split at h1
    · have := of_decide_eq_true h1
      subst this
      exact .cons (dks_of h2)
    · cases h1
  | [], _ :: _, h => by cases h
  | _ :: _, [], h => by cases h
def chkI (sc : Scope) (k : ItK) (ca : List Expr → Bool) (tg iter : Expr) : Bool := noSet iter && match k with
  | .seq => ca [iter]
  | .rng1 => (match iter with
    | .Call (.Name x _) [a] [] _ => decide (x = "range") && nameOk sc x && ca [a]
    | _ => false)
  | .rng2 => (match iter with
    | .Call (.Name x _) [a, b] [] _ => decide (x = "range") && nameOk sc x && ca [a, b]
    | _ => false)
  | .enum => (match tg, iter with
    | .Tuple _ _ _, .Call (.Name x _) [a] [] _ => decide (x = "enumerate") && nameOk sc x && ca [a]
    | _, _ => false)
  | .zip => (match tg, iter with
    | .Tuple _ _ _, .Call (.Name x _) [a, b] [] _ => decide (x = "zip") && nameOk sc x && ca [a, b]
    | _, _ => false)
def optC (z : Bool) (c : Expr → Bool) : Option Expr → Bool
  | none => z
  | some e => !z && c e
def ifsC (z : Bool) (c : Expr → Bool) : List Expr → Bool
  | [] => z
  | [e] => !z && c e
  | _ => false
def slN (N : List Str) (sc : Scope) (i : Nat) : Expr → Bool
  | .Name x _ => ckV N sc i x
  | _ => false
def sameLn (a c : Pos) : Bool := a.endLine == c.line
def noPar (a : Arguments) : Bool := a.posonlyargs.isEmpty && a.args.isEmpty && a.vararg.isNone && a.kwonlyargs.isEmpty && a.kw_defaults.isEmpty && a.kwarg.isNone && a.defaults.isEmpty
mutual
def chkE : Tx → List Str → Ex → Scope → Expr → Bool
  | t, N, .var i, sc, e => slN N sc i e
  | t, N, .cst d, _, e => (match e with | .Constant c _ _ => cstOk d c | _ => false)
  | t, N, .glb k, sc, e => (match e with | .Name x _ => (match t.gl k with | some y => ckG sc x y | none => false) | _ => false)
  | t, N, .bin o a b, sc, e => (match e with | .BinOp f p g _ => isB o p && chkE t N a sc f && chkE t N b sc g | _ => false)
  | t, N, .cmp o a b, sc, e => (match e with | .Compare f [p] [g] _ => isC o p && noSet g && chkE t N a sc f && chkE t N b sc g | _ => false)
  | t, N, .chain o p a b c, sc, e => (match e with | .Compare f [q, r] [g, h] _ => isC o q && isC p r && noSet h && chkE t N a sc f && chkE t N b sc g && chkE t N c sc h | _ => false)
  | t, N, .isN neg a, sc, e => (match e with | .Compare f [p] [.Constant .none _ _] _ => isN neg p && chkE t N a sc f | _ => false)
  | t, N, .isB neg b a, sc, e => (match e with | .Compare f [p] [.Constant (.bool c) _ _] _ => isN neg p && (c == b) && chkE t N a sc f | _ => false)
  | t, N, .rev a, sc, e => (match e with | .Subscript f (.Slice none none (some (.UnaryOp .USub (.Constant (.int i) _ _) _)) _) _ => decide (i = 1) && chkE t N a sc f | _ => false)
  | t, N, .lam f b, sc, e => (match e with
    | .Call (.Name x _) [.Lambda ps body scope _] [] _ => (match t.ln f with | some y => ckG sc x y | none => false) && t.lamb && lamSB sc scope && noPar ps && chkE { t with lamb := false } N b scope body
    | _ => false)
  | t, N, .and a b, sc, e => (match e with
    | .BoolOp .And (f :: g :: r) pos => chkE t N a sc f && (match r with | [] => chkE t N b sc g | _ :: _ => chkE t N b sc (.BoolOp .And (g :: r) pos))
    | _ => false)
  | t, N, .or a b, sc, e => (match e with
    | .BoolOp .Or (f :: g :: r) pos => chkE t N a sc f && (match r with | [] => chkE t N b sc g | _ :: _ => chkE t N b sc (.BoolOp .Or (g :: r) pos))
    | _ => false)
  | t, N, .not a, sc, e => (match e with | .UnaryOp .Not f _ => chkE t N a sc f | _ => false)
  | t, N, .neg a, sc, e => (match e with | .UnaryOp .USub f _ => chkE t N a sc f | _ => false)
  | t, N, .ite c a b, sc, e => (match e with | .IfExp f g h _ => chkT t N c sc f && chkE t N a sc g && chkE t N b sc h | _ => false)
  | t, N, .tup as, sc, e => (match e with | .Tuple es _ _ => chkA t N as sc es | _ => false)
  | t, N, .lst as, sc, e => (match e with | .List es _ => chkA t N as sc es | _ => false)
  | t, N, .lrep as n, sc, e => (match e with | .BinOp (.List es _) .Mult (.Constant (.int m) _ _) _ => decide (m = (n : Int)) && chkA t N as sc es | _ => false)
  | t, N, .ix a b, sc, e => (match e with | .Subscript f g _ => plainIx g && chkE t N a sc f && chkE t N b sc g | _ => false)
  | t, N, .sl a lo hi, sc, e => (match e with
    | .Subscript f (.Slice l h none _) _ => chkE t N a sc f && optC (isZero lo) (fun x => chkE t N lo sc x) l && optC (isZero hi) (fun x => chkE t N hi sc x) h
    | _ => false)
  | t, N, .call f as, sc, e => (match e with
    | .Call (.Name x _) (g :: es) [] _ => (match t.fn f with | some y => ckG sc x y | none => false) && !t.io f && chkA t N as sc (g :: es)
    | _ => false)
  | t, N, .callIo f i as, sc, e => (match e with
    | .Call (.Name x _) (g :: es) [] _ => (match t.fn f with | some y => ckG sc x y | none => false) && t.io f && !t.own f && slN N sc i g && chkA t N as sc es
    | _ => false)
  | t, N, .bi b as, sc, e => (match e with
    | .Call (.Name x _) (g :: es) [] _ => biK b && decide (x = (biN b : Str)) && nameOk sc x && (match b with | .len => (match es with | [] => true | _ => false) | _ => true) && chkA t N as sc (g :: es)
    | _ => false)
  | t, N, .isi a ty, sc, e => (match e with
    | .Call (.Name x _) [f, .Name y _] [] _ => decide (x = ("isinstance" : Str)) && nameOk sc x && decide (y = (tyN ty : Str)) && nameOk sc y && noStar f && chkE t N a sc f
    | _ => false)
  | t, N, .lc tg k s c el, sc, e => (match e with
    | .ListComp f [⟨g, it, ifs, 0⟩] scope _ => chkI sc k (fun es => chkA t N s sc es) g it && blkC N sc scope (ownOf N tg) && chkG N (lcB sc scope) tg g &&
        ifsC (isZero c) (fun x => chkT t N c (relS scope sc) x) ifs && chkE t N el (relS scope sc) f
    | _ => false)
  | t, N, .pop i, sc, e => (match e with
    | .Call (.Attribute (.Name y _) mm ap) [.Constant (.int z) _ _] [] cp => decide (z = 0) && decide (mm = ("pop" : Str)) && sameLn ap cp && ckV N sc i y
    | _ => false)
  | t, N, .dix ks vs k, sc, e => (match e with
    | .Subscript (.Dict keys vals _) g _ => plainIx g && dks ks keys && decide (ks.length = vals.length) && decide (ks ≠ []) && decide (ks.length ≤ 15) && chkA t N vs sc vals && chkE t N k sc g
    | _ => false)
  | t, N, .dget i k, sc, e => (match e with | .Subscript f g _ => slN N sc i f && plainIx g && chkE t N k sc g | _ => false)
  | t, N, .dgetN i k, sc, e => (match e with
    | .Call (.Attribute f mm ap) [g] [] cp => slN N sc i f && decide (mm = ("get" : Str)) && sameLn ap cp && noStar g && chkE t N k sc g
    | _ => false)
  | t, N, .dgetD i k d, sc, e => (match e with
    | .Call (.Attribute f mm ap) [g, h] [] cp => slN N sc i f && decide (mm = ("get" : Str)) && sameLn ap cp && noStar g && noStar h && chkE t N k sc g && chkE t N d sc h
    | _ => false)
  | t, N, .din i k, sc, e => (match e with | .Compare f [.In] [g] _ => slN N sc i g && chkE t N k sc f | _ => false)
  | t, N, .mth m a as, sc, e => (match e with
    | .Call (.Attribute f mm ap) [g] [] cp => decide (mm = (meN m : Str)) && sameLn ap cp && noSuper f && noStar g && chkE t N a sc f && chkA t N as sc [g]
    | _ => false)
  | _, _, _, _, _ => false
def chkT : Tx → List Str → Ex → Scope → Expr → Bool
  | t, N, .cmp o a b, sc, e => (match e with | .Compare f [p] [g] _ => isC o p && noSet g && chkE t N a sc f && chkE t N b sc g | _ => false)
  | t, N, .chain o p a b c, sc, e => (match e with | .Compare f [q, r] [g, h] _ => isC o q && isC p r && noSet h && chkE t N a sc f && chkE t N b sc g && chkE t N c sc h | _ => false)
  | t, N, .isN neg a, sc, e => (match e with | .Compare f [p] [.Constant .none _ _] _ => isN neg p && chkE t N a sc f | _ => false)
  | t, N, .isB neg b a, sc, e => (match e with | .Compare f [p] [.Constant (.bool c) _ _] _ => isN neg p && (c == b) && chkE t N a sc f | _ => false)
  | t, N, .and a b, sc, e => (match e with
    | .BoolOp .And (f :: g :: r) pos => chkT t N a sc f && (match r with | [] => chkT t N b sc g | _ :: _ => chkT t N b sc (.BoolOp .And (g :: r) pos))
    | _ => false)
  | t, N, .or a b, sc, e => (match e with
    | .BoolOp .Or (f :: g :: r) pos => chkT t N a sc f && (match r with | [] => chkT t N b sc g | _ :: _ => chkT t N b sc (.BoolOp .Or (g :: r) pos))
    | _ => false)
  | t, N, .not a, sc, e => (match e with | .UnaryOp .Not f _ => chkT t N a sc f | _ => false)
  | t, N, .tru a, sc, e => plainT e && chkE t N a sc e
  | t, N, .din i k, sc, e => (match e with | .Compare f [.In] [g] _ => slN N sc i g && chkE t N k sc f | _ => false)
  | _, _, _, _, _ => false
def chkA : Tx → List Str → Ex → Scope → List Expr → Bool
  | t, N, .nil, _, es => (match es with | [] => true | _ => false)
  | t, N, .cons a r, sc, es => (match es with | e :: es => noStar e && chkE t N a sc e && chkA t N r sc es | [] => false)
  | _, _, _, _, _ => false
end
def chkF (t : Tx) (N : List Str) : Ex → Scope → Expr → Bool
  | .lst as, sc, e => (match e with | .List es _ => chkA t N as sc es | _ => false)
  | .bin .add a b, sc, e => (match e with | .BinOp f .Add g _ => chkE t N a sc f && chkE t N b sc g | _ => false)
  | .lc tg k s c el, sc, e => chkE t N (.lc tg k s c el) sc e
  | .call f as, sc, e => t.own f && chkE t N (.call f as) sc e
  | .dict ks vs, sc, e => (match e with
    | .Dict keys vals _ => (match keys with
      | [] => (match vals with | [] => decide (ks = []) && isZero vs | _ => false)
      | _ => dks ks keys && decide (ks.length = vals.length) && decide (ks ≠ []) && decide (ks.length ≤ 15) && chkA t N vs sc vals)
    | _ => false)
  | _, _, _ => false
end Fo

set_option Elab.async false
set_option linter.all false
set_option maxRecDepth 100000
set_option maxHeartbeats 4000000
/-! SemB8: a checked expression of the text answers as ours does. -/
namespace Fo
open PySem L2 LamX PyProof.Rows

theorem gl_of {X : Cx} {sc : Scope} {x y : Str} (hs : X.env.scope = sc) (h : ckG sc x y = true) : x = y ∧ Gl X x ∧ (x == ("__debug__" : Str)) = false ∧ x ≠ "__name__" := by
  obtain ⟨h1, h2, h3, h4⟩ := ckG_of h
  exact ⟨h1, by show X.env.scope.names.lookup x = _; rw [hs]; exact h2, h3, h4⟩
theorem slN_of {X : Cx} {N : List Str} {sc : Scope} {i : Nat} {e : Expr} (hs : X.env.scope = sc) (hN : X.N = N) (h : slN N sc i e = true) :
    ∃ x p, e = .Name x p ∧ X.N[i]? = some x ∧ Vis X.env.scope x ∧ (x == ("__debug__" : Str)) = false ∧ (x == ("__classdict__" : Str)) = false := by
  unfold slN at h
  split at h
  · obtain ⟨h1, h2, h3, h4⟩ := ckV_of h
    exact ⟨_, _, rfl, by rw [hN]; exact h1, by rw [hs]; exact h2, h3, h4⟩
  · cases h
theorem tE_mono {X : Cx} {Tb : Tbs} {W : XW} {ma m : Nat → Bool} {a : Expr} {f : Rho → R (D × Rho)} (h : PE X a (tE X.K Tb W ma f)) (hm : ∀ i, ma i = true → m i = true) : PE X a (tE X.K Tb W m f) :=
  h.weaken fun σ H Q ⟨ρ, k, w, q⟩ => ⟨ρ, k, w, pG_mono q hm fun _ _ _ _ _ _ z => z⟩
theorem tT_mono {X : Cx} {Tb : Tbs} {W : XW} {ma m : Nat → Bool} {a : Expr} {f : Rho → R (D × Rho)} (h : PT X a (tT X.K Tb W ma f)) (hm : ∀ i, ma i = true → m i = true) : PT X a (tT X.K Tb W m f) :=
  h.weaken fun σ H Q ⟨ρ, k, w, q⟩ => ⟨ρ, k, w, pG_mono q hm fun _ _ _ _ _ _ z => z⟩
theorem tWm {X : Cx} {Tb : Tbs} {W : XW} {ma m : Nat → Bool} {a : Expr} {f : Rho → R (D × Rho)} (h : PW X a (tT X.K Tb W ma f)) (hm : ∀ i, ma i = true → m i = true) : PW X a (tT X.K Tb W m f) :=
  h.weaken fun σ H Q ⟨ρ, k, w, q⟩ => ⟨ρ, k, w, pG_mono q hm fun _ _ _ _ _ _ z => z⟩
theorem Good.blk {t : Tx} {Q : Prog} {Tb : Tbs} {ca : Nat → Addr} {n : Nat} {N : List Str} {X : Cx} {W : XW} (G : Good t Q Tb ca n N X W) (s : Shared) (H : Hp) (scope : Scope) (cenv : Env) (fp : List Addr) (hc : cenv.code = X.env.code := by rfl) (hq : cenv.qual = X.env.qual := by rfl) :
    Good t Q Tb ca n N (X.blk s H scope cenv fp) W0 where
  names := G.names
  nd := G.nd
  calm := G.calm
  room := G.room
  oks := G.oks
  lam := fun h => ⟨by
    obtain ⟨c, P, h1, h2, h3, h4⟩ := (G.lam h).fr
    exact ⟨c, P, h1, hc.trans h2, by show (P, cenv.qual ++ _) ∈ Tb; rw [hq]; exact h3, fun p hp hP => by show p.2 = cenv.qual ++ _; rw [hq]; exact h4 p hp hP⟩, (G.lam h).ln⟩
  tk := fun u s' h => by
    obtain ⟨a, B, sI, pins, σ, H, cls, d, e, I, nb, up, sky, na, os, ag, w⟩ := h
    obtain ⟨c, _, _, f⟩ := w
    exact f.elim
theorem call_list {Q : Prog} {n f : Nat} {F : Df} {ds : List D} {d : D} {zs : List D} (hF : Q.defs f = some F) (ho : F.own = true) (h : callF Q n f ds = .ok (d, zs)) : ∃ xs, d = .list xs := by
  cases n with
  | zero => cases h
  | succ n =>
    rw [callF_succ, hF] at h
    dsimp only at h
    by_cases hl : ds.length = F.np
    · rw [if_pos hl] at h
      cases q : evS (Q.ctx n) F.body (start F ds) with
      | bad => rw [q] at h; cases h
      | exc c => rw [q] at h; cases h
      | ok p =>
        rw [q] at h
        obtain ⟨fl, ρ⟩ := p
        have h : (if F.io = true then ownAt ρ 0 else .ok []).bind (fun zs => match fl with
          | .next => if F.own = true then .bad else .ok (.none, zs)
          | .ret d => if F.own = true ∧ isLst d = false then .bad else .ok (d, zs)) = .ok (d, zs) := h
        cases q2 : (if F.io = true then ownAt ρ 0 else R.ok []) with
        | bad => rw [q2] at h; cases h
        | exc c => rw [q2] at h; cases h
        | ok us =>
          rw [q2] at h
          cases fl with
          | next =>
            have h : (if F.own = true then R.bad else .ok (.none, us)) = .ok (d, zs) := h
            rw [if_pos ho] at h; cases h
          | ret x =>
            have h : (if F.own = true ∧ isLst x = false then R.bad else .ok (x, us)) = .ok (d, zs) := h
            by_cases hx : isLst x = false
            · rw [if_pos ⟨ho, hx⟩] at h; cases h
            · rw [if_neg (fun z => hx z.2)] at h
              cases h
              cases d <;> first | exact ⟨_, rfl⟩ | exact absurd rfl hx
    · rw [if_neg hl] at h; cases h

section
variable {X : Cx} {Tb : Tbs} {W : XW} {m ma mb : Nat → Bool} {a b : Expr} {fa fb : Rho → R (D × Rho)} {pos : Pos}
theorem s_glb {t : Tx} {Q : Prog} {ca : Nat → Addr} {n : Nat} {N : List Str} (G : Good t Q Tb ca n N X W) {k : Nat} {x y : Str} (hy : t.gl k = some y) (hx : x = y) (hg : Gl X x) (hd : (x == ("__debug__" : Str)) = false) :
    PE X (.Name x pos) (tE X.K Tb W m fun ρ => (ofOpt (Q.glb k)).bind fun d => .ok (d, ρ)) := by
  subst hx
  cases q : Q.glb k with
  | none => exact ⟨fun pins s σ H Qv I ⟨ρ, k, w, h⟩ => (show False from h).elim⟩
  | some d =>
    obtain ⟨v, u, h1, h2, h3⟩ := G.ok.gl k x d hy q
    exact (pe_glob hg h1 h2 hd).weaken fun σ H Qv ⟨ρ, k, w, h⟩ => pG_ok h w v (h3 k)
/-- a list that is the sum of two: one's own -/
theorem f_add (ha : PE X a (tE X.K Tb W ma fa)) (hb : PE X b (tE X.K Tb W mb fb)) (hma : ∀ i, ma i = true → m i = true) (hmb : ∀ i, mb i = true → m i = true) :
    PE X (.BinOp a .Add b pos) (tF X.K Tb W m fun ρ => ((fa ρ).bind fun (x, ρ1) => (fb ρ1).bind fun (y, ρ2) => (ofOpt (binD .add x y)).bind fun z => .ok (z, ρ2)).bind ownG) := by
  refine (pe_op op_catL ha hb).weaken fun σ H Q ⟨ρ, k, w, h⟩ => ?_
  dsimp only at h
  rw [R.bind_assoc] at h
  refine ⟨ρ, k, w, pG_mono (pG_bind h) hma fun d ρ1 k1 H1 t1 w1 h1 v hv => ?_⟩
  dsimp only at h1
  rw [R.bind_assoc] at h1
  refine ⟨ρ1, k1, w1, pG_mono (pG_bind h1) hmb fun e ρ2 k2 H2 t2 w2 h2 u hu => ?_⟩
  dsimp only at h2
  cases d with
  | list xs => cases e with
    | list ys =>
      cases hv with
      | @lst a1 vs _ g1 g2 => cases hu with
        | @lst a2 us _ g3 g4 =>
          have e1 : binD .add (.list xs) (.list ys) = if xs.length + ys.length ≤ line then some (.list (xs ++ ys)) else none := rfl
          rw [e1] at h2
          by_cases hc : xs.length + ys.length ≤ line
          · rw [if_pos hc] at h2
            refine ⟨_, _, _, _, rfl, rfl, w2.sub.seq (t2.kk.seq g1), w2.sub.seq g3, by rw [line_eq, g2.lenD, g4.lenD]; exact hc, fun p hp => ?_⟩
            have px := Px.hide w2.sub hp (o := .lst (vs ++ us))
            exact pG_okx h2 w2 px p (back_none t1 (back_none t2 hp)) (sub_none w2.sub hp) ⟨_, upd_same, (dps_mono t2.kk g2).appD g4⟩
          · rw [if_neg hc] at h2; exact h2.elim
    | _ => exact h2.elim
  | str xs => cases e with
    | str ys =>
      have e1 : binD .add (.str xs) (.str ys) = if xs.length + ys.length ≤ line then some (.str (xs ++ ys)) else none := rfl
      rw [e1] at h2
      by_cases hc : xs.length + ys.length ≤ line
      · rw [if_pos hc] at h2; exact h2.elim
      · rw [if_neg hc] at h2; exact h2.elim
    | _ => exact h2.elim
  | tuple xs => cases e with
    | tuple ys =>
      have e1 : binD .add (.tuple xs) (.tuple ys) = if xs.length + ys.length ≤ line then some (.tuple (xs ++ ys)) else none := rfl
      rw [e1] at h2
      by_cases hc : xs.length + ys.length ≤ line
      · rw [if_pos hc] at h2; exact h2.elim
      · rw [if_neg hc] at h2; exact h2.elim
    | _ => exact h2.elim
  | int xs => cases e with
    | int ys => exact h2.elim
    | _ => exact h2.elim
  | bool xs => cases e with
    | int ys => exact h2.elim
    | _ => exact h2.elim
  | _ => exact h2.elim
end
theorem isZero_of {z : Ex} (h : isZero z = true) : z = .nil := by
  cases z <;> first | rfl | cases h
structure Snd (t : Tx) (Q : Prog) (Tb : Tbs) (ca : Nat → Addr) (n : Nat) (N : List Str) (xa : Ex) : Prop where
  pe : ∀ (X : Cx) (W : XW) (sc : Scope) (e : Expr), Good t Q Tb ca n N X W → X.env.scope = sc → chkE t N xa sc e = true → PE X e (tE X.K Tb W (fun i => occ i xa) (evE (Q.ctx n) xa))
  pt : ∀ (X : Cx) (W : XW) (sc : Scope) (e : Expr), Good t Q Tb ca n N X W → X.env.scope = sc → chkT t N xa sc e = true →
    PT X e (tT X.K Tb W (fun i => occ i xa) (evE (Q.ctx n) xa)) ∧ ((∃ op es pos, e = .BoolOp op es pos) → PW X e (tT X.K Tb W (fun i => occ i xa) (evE (Q.ctx n) xa)))
  pa : ∀ (X : Cx) (W : XW) (sc : Scope) (es : List Expr), Good t Q Tb ca n N X W → X.env.scope = sc → chkA t N xa sc es = true →
    PA X es (tA X.K Tb W (fun i => occ i xa) (evA (Q.ctx n) xa)) ∧ (∀ m : Nat → Bool, (∀ i, occ i xa = true → m i = true) → ∃ ts, DisV X Tb W m (evA (Q.ctx n) xa) es ts) ∧ es.all noStar = true ∧
      (∀ xb xr e er, xa = .cons xb xr → es = e :: er → PE X e (tE X.K Tb W (fun i => occ i xb) (evE (Q.ctx n) xb)) ∧ VarOk X xb e ∧ chkE t N xb sc e = true)
section
variable {t : Tx} {Q : Prog} {Tb : Tbs} {ca : Nat → Addr} {n : Nat} {N : List Str}
theorem varOk {X : Cx} {xa : Ex} {e : Expr} {sc : Scope} (hs : X.env.scope = sc) (hN : X.N = N) (h : chkE t N xa sc e = true) : VarOk X xa e := by
  intro i hi
  subst hi
  unfold chkE at h
  exact slN_of hs hN h

theorem snd_none {xa : Ex} (he : ∀ sc e, chkE t N xa sc e = false) (ht : ∀ sc e, chkT t N xa sc e = false) (ha : ∀ sc e, chkA t N xa sc e = false) : Snd t Q Tb ca n N xa :=
  ⟨fun X W sc e _ _ h => (by rw [he] at h; cases h), fun X W sc e _ _ h => (by rw [ht] at h; cases h), fun X W sc e _ _ h => (by rw [ha] at h; cases h)⟩
/-- of the value alone -/
theorem snd_e {xa : Ex} (he : ∀ (X : Cx) (W : XW) (sc : Scope) (e : Expr), Good t Q Tb ca n N X W → X.env.scope = sc → chkE t N xa sc e = true → PE X e (tE X.K Tb W (fun i => occ i xa) (evE (Q.ctx n) xa)))
    (ht : ∀ sc e, chkT t N xa sc e = false) (ha : ∀ sc e, chkA t N xa sc e = false) : Snd t Q Tb ca n N xa :=
  ⟨he, fun X W sc e _ _ h => (by rw [ht] at h; cases h), fun X W sc e _ _ h => (by rw [ha] at h; cases h)⟩
theorem snd_et {xa : Ex} (he : ∀ (X : Cx) (W : XW) (sc : Scope) (e : Expr), Good t Q Tb ca n N X W → X.env.scope = sc → chkE t N xa sc e = true → PE X e (tE X.K Tb W (fun i => occ i xa) (evE (Q.ctx n) xa)))
    (ht : ∀ (X : Cx) (W : XW) (sc : Scope) (e : Expr), Good t Q Tb ca n N X W → X.env.scope = sc → chkT t N xa sc e = true →
      PT X e (tT X.K Tb W (fun i => occ i xa) (evE (Q.ctx n) xa)) ∧ ((∃ op es pos, e = .BoolOp op es pos) → PW X e (tT X.K Tb W (fun i => occ i xa) (evE (Q.ctx n) xa))))
    (ha : ∀ sc e, chkA t N xa sc e = false) : Snd t Q Tb ca n N xa :=
  ⟨he, ht, fun X W sc e _ _ h => (by rw [ha] at h; cases h)⟩
theorem noBool {e : Expr} {P : Prop} (h : ∀ op es pos, e ≠ .BoolOp op es pos) (z : ∃ op es pos, e = .BoolOp op es pos) : P := by
  obtain ⟨op, es, pos, z⟩ := z
  exact absurd z (h op es pos)
variable {a b c : Ex}
theorem snd_var (i : Nat) : Snd t Q Tb ca n N (.var i) := snd_e (fun X W sc e G hs h => by
    unfold chkE at h
    obtain ⟨x, p, rfl, h1, h2, h3, h4⟩ := slN_of hs G.names h
    exact s_var h1 h2 h3 h4 _) (fun _ _ => by unfold chkT; rfl) (fun _ _ => by unfold chkA; rfl)
theorem snd_cst (d : D) : Snd t Q Tb ca n N (.cst d) := snd_e (fun X W sc e G hs h => by
    unfold chkE at h
    split at h
    · exact s_cst h _
    · cases h) (fun _ _ => by unfold chkT; rfl) (fun _ _ => by unfold chkA; rfl)
theorem snd_glb (k : Nat) : Snd t Q Tb ca n N (.glb k) := snd_e (fun X W sc e G hs h => by
    unfold chkE at h
    split at h
    · split at h
      · rename_i hy
        obtain ⟨h1, h2, h3, h4⟩ := gl_of hs h
        have e : evE (Q.ctx n) (.glb k) = fun ρ => (ofOpt (Q.glb k)).bind fun d => .ok (d, ρ) := by funext ρ; rw [evE]; rfl
        rw [e]
        exact s_glb G hy h1 h2 h3
      · cases h
    · cases h) (fun _ _ => by unfold chkT; rfl) (fun _ _ => by unfold chkA; rfl)
theorem snd_bin (o : BOp) (ha : Snd t Q Tb ca n N a) (hb : Snd t Q Tb ca n N b) : Snd t Q Tb ca n N (.bin o a b) := snd_e (fun X W sc e G hs h => by
    unfold chkE at h
    split at h
    · simp only [Bool.and_eq_true, decide_eq_true_eq, Bool.not_eq_true'] at h
      obtain ⟨⟨h1, h2⟩, h3⟩ := h
      rw [isB_of h1]
      have e : evE (Q.ctx n) (.bin o a b) = fun ρ => (evE (Q.ctx n) a ρ).bind fun (x, ρ1) => (evE (Q.ctx n) b ρ1).bind fun (y, ρ2) => (ofOpt (binD o x y)).bind fun z => .ok (z, ρ2) := by funext ρ; rw [evE]
      rw [e]
      exact s_bin o (ha.pe X W sc _ G hs h2) (hb.pe X W sc _ G hs h3) (fun i z => by simp [occ, z]) (fun i z => by simp [occ, z])
    · cases h) (fun _ _ => by unfold chkT; rfl) (fun _ _ => by unfold chkA; rfl)
theorem snd_cmp (o : COp) (ha : Snd t Q Tb ca n N a) (hb : Snd t Q Tb ca n N b) : Snd t Q Tb ca n N (.cmp o a b) := snd_et (fun X W sc e G hs h => by
    unfold chkE at h
    split at h
    · simp only [Bool.and_eq_true, decide_eq_true_eq, Bool.not_eq_true'] at h
      obtain ⟨⟨⟨h1, h0⟩, h2⟩, h3⟩ := h
      rw [isC_of h1]
      exact s_cmp _ G.room o (ha.pe X W sc _ G hs h2) (varOk hs G.names h2) (hb.pe X W sc _ G hs h3) h0
    · cases h) (fun X W sc e G hs h => by
    unfold chkT at h
    split at h
    · simp only [Bool.and_eq_true, decide_eq_true_eq, Bool.not_eq_true'] at h
      obtain ⟨⟨⟨h1, h0⟩, h2⟩, h3⟩ := h
      rw [isC_of h1]
      exact ⟨t_cmp _ G.room o (ha.pe X W sc _ G hs h2) (varOk hs G.names h2) (hb.pe X W sc _ G hs h3) h0, noBool fun _ _ _ z => by cases z⟩
    · cases h) (fun _ _ => by unfold chkA; rfl)
theorem snd_chain (o p : COp) (ha : Snd t Q Tb ca n N a) (hb : Snd t Q Tb ca n N b) (hc : Snd t Q Tb ca n N c) : Snd t Q Tb ca n N (.chain o p a b c) := by
  have e : evE (Q.ctx n) (.chain o p a b c) = fun ρ => (evE (Q.ctx n) a ρ).bind fun (x, ρ1) => (evE (Q.ctx n) b ρ1).bind fun (y, ρ2) => (ofOpt (cmpD o x y)).bind fun z => (boolR (z, ρ2)).bind fun (t, ρ2) =>
    if t = true then (evE (Q.ctx n) c ρ2).bind fun (w, ρ3) => (ofOpt (cmpD p y w)).bind fun z => .ok (z, ρ3) else .ok (.bool false, ρ2) := by funext ρ; rw [evE]
  exact snd_et (fun X W sc e' G hs h => by
    unfold chkE at h
    split at h
    · simp only [Bool.and_eq_true, decide_eq_true_eq, Bool.not_eq_true'] at h
      obtain ⟨⟨⟨⟨⟨h1, h2⟩, h3⟩, h4⟩, h5⟩, h6⟩ := h
      rw [isC_of h1, isC_of h2, e]
      exact s_chain G.room o p (ha.pe X W sc _ G hs h4) (hb.pe X W sc _ G hs h5) (hc.pe X W sc _ G hs h6) h3 (fun i z => by simp [occ, z]) (fun i z => by simp [occ, z]) (fun i z => by simp [occ, z])
    · cases h) (fun X W sc e' G hs h => by
    unfold chkT at h
    split at h
    · simp only [Bool.and_eq_true, decide_eq_true_eq, Bool.not_eq_true'] at h
      obtain ⟨⟨⟨⟨⟨h1, h2⟩, h3⟩, h4⟩, h5⟩, h6⟩ := h
      rw [isC_of h1, isC_of h2, e]
      exact ⟨t_chain G.room o p (ha.pe X W sc _ G hs h4) (hb.pe X W sc _ G hs h5) (hc.pe X W sc _ G hs h6) h3 (fun i z => by simp [occ, z]) (fun i z => by simp [occ, z]) (fun i z => by simp [occ, z]), noBool fun _ _ _ z => by cases z⟩
    · cases h) (fun _ _ => by unfold chkA; rfl)
theorem snd_isN (neg : Bool) (ha : Snd t Q Tb ca n N a) : Snd t Q Tb ca n N (.isN neg a) := by
  have e : evE (Q.ctx n) (.isN neg a) = fun ρ => (evE (Q.ctx n) a ρ).bind fun (x, ρ1) => .ok (.bool (match x with | .none => !neg | _ => neg), ρ1) := by
    funext ρ; first | (rw [evE]; done) | (rw [evE]; congr 1)
  exact snd_et (fun X W sc e' G hs h => by
    unfold chkE at h
    split at h
    · simp only [Bool.and_eq_true, decide_eq_true_eq, Bool.not_eq_true'] at h
      rw [isN_op h.1, e]
      exact s_isN neg (ha.pe X W sc _ G hs h.2) (fun i z => by simp [occ, z])
    · cases h) (fun X W sc e' G hs h => by
    unfold chkT at h
    split at h
    · simp only [Bool.and_eq_true, decide_eq_true_eq, Bool.not_eq_true'] at h
      rw [isN_op h.1, e]
      exact ⟨t_isN neg (ha.pe X W sc _ G hs h.2) (fun i z => by simp [occ, z]), noBool fun _ _ _ z => by cases z⟩
    · cases h) (fun _ _ => by unfold chkA; rfl)
theorem snd_isB (neg b : Bool) (ha : Snd t Q Tb ca n N a) : Snd t Q Tb ca n N (.isB neg b a) := by
  have e : evE (Q.ctx n) (.isB neg b a) = fun ρ => (evE (Q.ctx n) a ρ).bind fun (x, ρ1) => (ofOpt (isBd neg b x)).bind fun z => .ok (z, ρ1) := by funext ρ; rw [evE]
  have core : ∀ {X : Cx} {W : XW} {σ : L2.St} {H : Hp} {Qv : VK}, tE X.K Tb W (fun i => occ i (.isB neg b a)) (evE (Q.ctx n) (.isB neg b a)) σ H Qv →
      tOp (if neg = true then rNotB else rIsB) (tE X.K Tb W (fun i => occ i a) (evE (Q.ctx n) a)) (tC (.bl b)) σ H Qv := by
    intro X W σ H Qv h
    rw [e] at h
    obtain ⟨ρ, k, w, h⟩ := h
    refine ⟨ρ, k, w, pG_mono (pG_bind h) (fun i z => by simp [occ, z]) fun d ρ1 k1 H1 t1 w1 h1 v hv => ?_⟩
    cases d with
    | bool c =>
      have h1 : pG X.K Tb W (fun i => occ i (.isB neg b a)) σ ρ1 k1 H1 (.ok (.bool (if neg = true then !(c == b) else c == b), ρ1)) fun d _ k1 H1 => ∀ v, Dp X.K k1 v d → Qv v H1 := h1
      have q := pG_ok h1 w1 _ (.bl _)
      have e3 : decide (c = b) = (c == b) := by cases c <;> cases b <;> rfl
      cases neg with
      | true => exact ⟨c, b, tt_of hv, rfl, by rw [e3]; exact q⟩
      | false => exact ⟨c, b, tt_of hv, rfl, by rw [e3]; exact q⟩
    | _ => exact h1.elim
  have hop : ∀ {X : Cx}, OpR X (compareOp (if neg = true then .IsNot else .Is)) (if neg = true then rNotB else rIsB) := by
    intro X
    cases neg with
    | true => exact op_notBl
    | false => exact op_isBl
  exact snd_et (fun X W sc e' G hs h => by
    unfold chkE at h
    split at h
    · simp only [Bool.and_eq_true, beq_iff_eq] at h
      obtain ⟨⟨h1, h2⟩, h3⟩ := h
      subst h2
      rw [isN_op h1]
      exact (pe_cmpR hop (ha.pe X W sc _ G hs h3) pe_bl (marks_of rfl)).weaken fun σ H Qv h => core h
    · cases h) (fun X W sc e' G hs h => by
    unfold chkT at h
    split at h
    · simp only [Bool.and_eq_true, beq_iff_eq] at h
      obtain ⟨⟨h1, h2⟩, h3⟩ := h
      subst h2
      rw [isN_op h1]
      exact ⟨cmp_test hop (ha.pe X W sc _ G hs h3) pe_bl rfl fun σ H Qv h => core h, noBool fun _ _ _ z => by cases z⟩
    · cases h) (fun _ _ => by unfold chkA; rfl)
theorem snd_and (ha : Snd t Q Tb ca n N a) (hb : Snd t Q Tb ca n N b) : Snd t Q Tb ca n N (.and a b) := by
  have e : evE (Q.ctx n) (.and a b) = fun ρ => ((evE (Q.ctx n) a ρ).bind boolR).bind fun (t, ρ1) => if t = true then evE (Q.ctx n) b ρ1 else .ok (.bool false, ρ1) := by funext ρ; rw [evE]
  refine snd_et (fun X W sc e' G hs h => ?_) (fun X W sc e' G hs h => ?_) (fun _ _ => by unfold chkA; rfl)
  · unfold chkE at h
    split at h
    · rename_i f g r pos
      rw [Bool.and_eq_true] at h
      rw [e]
      refine s_and (ha.pe X W sc _ G hs h.1) ?_ (fun i z => by simp [occ, z]) (mb := fun i => occ i b) (fun i z => by simp [occ, z])
      cases r with
      | nil => exact pe_one (hb.pe X W sc _ G hs h.2)
      | cons _ _ => exact hb.pe X W sc _ G hs h.2
    · cases h
  · unfold chkT at h
    split at h
    · rename_i f g r pos
      rw [Bool.and_eq_true] at h
      rw [e]
      have key := t_and (W := W) (Tb := Tb) (pos := pos) (ha.pt X W sc _ G hs h.1).1 (mb := fun i => occ i b) (fb := evE (Q.ctx n) b) (rest := r) (b := g) (m := fun i => occ i (.and a b)) (by
        cases r with
        | nil => exact pw_and1 (hb.pt X W sc _ G hs h.2).1
        | cons _ _ => exact (hb.pt X W sc _ G hs h.2).2 ⟨_, _, _, rfl⟩) (fun i z => by simp [occ, z]) (fun i z => by simp [occ, z])
      exact ⟨key.pt, fun _ => key⟩
    · cases h
theorem snd_or (ha : Snd t Q Tb ca n N a) (hb : Snd t Q Tb ca n N b) : Snd t Q Tb ca n N (.or a b) := by
  have e : evE (Q.ctx n) (.or a b) = fun ρ => ((evE (Q.ctx n) a ρ).bind boolR).bind fun (t, ρ1) => if t = true then .ok (.bool true, ρ1) else evE (Q.ctx n) b ρ1 := by funext ρ; rw [evE]
  refine snd_et (fun X W sc e' G hs h => ?_) (fun X W sc e' G hs h => ?_) (fun _ _ => by unfold chkA; rfl)
  · unfold chkE at h
    split at h
    · rename_i f g r pos
      rw [Bool.and_eq_true] at h
      rw [e]
      refine s_or (ha.pe X W sc _ G hs h.1) ?_ (fun i z => by simp [occ, z]) (mb := fun i => occ i b) (fun i z => by simp [occ, z])
      cases r with
      | nil => exact pe_one (hb.pe X W sc _ G hs h.2)
      | cons _ _ => exact hb.pe X W sc _ G hs h.2
    · cases h
  · unfold chkT at h
    split at h
    · rename_i f g r pos
      rw [Bool.and_eq_true] at h
      rw [e]
      have key := t_or (W := W) (Tb := Tb) (pos := pos) (ha.pt X W sc _ G hs h.1).1 (mb := fun i => occ i b) (fb := evE (Q.ctx n) b) (rest := r) (b := g) (m := fun i => occ i (.or a b)) (by
        cases r with
        | nil => exact pw_or1 (hb.pt X W sc _ G hs h.2).1
        | cons _ _ => exact (hb.pt X W sc _ G hs h.2).2 ⟨_, _, _, rfl⟩) (fun i z => by simp [occ, z]) (fun i z => by simp [occ, z])
      exact ⟨key.pt, fun _ => key⟩
    · cases h
theorem snd_not (ha : Snd t Q Tb ca n N a) : Snd t Q Tb ca n N (.not a) := by
  have e : evE (Q.ctx n) (.not a) = fun ρ => ((evE (Q.ctx n) a ρ).bind boolR).bind fun (t, ρ1) => .ok (.bool (!t), ρ1) := by funext ρ; rw [evE]
  exact snd_et (fun X W sc e' G hs h => by
    unfold chkE at h
    split at h
    · rw [e]; exact s_not (ha.pe X W sc _ G hs h) (fun i z => by simp [occ, z])
    · cases h) (fun X W sc e' G hs h => by
    unfold chkT at h
    split at h
    · rw [e]; exact ⟨t_not (ha.pt X W sc _ G hs h).1 (fun i z => by simp [occ, z]), noBool fun _ _ _ z => by cases z⟩
    · cases h) (fun _ _ => by unfold chkA; rfl)
theorem snd_tru (ha : Snd t Q Tb ca n N a) : Snd t Q Tb ca n N (.tru a) := by
  have e : evE (Q.ctx n) (.tru a) = fun ρ => (evE (Q.ctx n) a ρ).bind fun (x, ρ1) => (ofOpt (truthD x)).bind fun t => .ok (.bool t, ρ1) := by funext ρ; rw [evE]
  exact snd_et (fun X W sc e' G hs h => (by unfold chkE at h; cases h)) (fun X W sc e' G hs h => by
    unfold chkT at h
    simp only [Bool.and_eq_true, decide_eq_true_eq, Bool.not_eq_true'] at h
    rw [e]
    exact ⟨t_tru (ha.pe X W sc _ G hs h.2) h.1 (fun i z => by simp [occ, z]), fun ⟨_, _, _, z⟩ => by subst z; cases h.1⟩) (fun _ _ => by unfold chkA; rfl)
theorem snd_neg (ha : Snd t Q Tb ca n N a) : Snd t Q Tb ca n N (.neg a) := by
  have e : evE (Q.ctx n) (.neg a) = fun ρ => (evE (Q.ctx n) a ρ).bind fun (x, ρ1) => match x with | .int i => .ok (.int (-i), ρ1) | _ => .bad := by
    funext ρ; first | (rw [evE]; done) | (rw [evE]; congr 1)
  exact snd_e (fun X W sc e' G hs h => by
    unfold chkE at h
    split at h
    · rw [e]; exact s_neg (ha.pe X W sc _ G hs h) (fun i z => by simp [occ, z])
    · cases h) (fun _ _ => by unfold chkT; rfl) (fun _ _ => by unfold chkA; rfl)
theorem snd_ite (hc : Snd t Q Tb ca n N c) (ha : Snd t Q Tb ca n N a) (hb : Snd t Q Tb ca n N b) : Snd t Q Tb ca n N (.ite c a b) := by
  have e : evE (Q.ctx n) (.ite c a b) = fun ρ => ((evE (Q.ctx n) c ρ).bind boolR).bind fun (t, ρ1) => if t = true then evE (Q.ctx n) a ρ1 else evE (Q.ctx n) b ρ1 := by funext ρ; rw [evE]
  exact snd_e (fun X W sc e' G hs h => by
    unfold chkE at h
    split at h
    · simp only [Bool.and_eq_true, decide_eq_true_eq, Bool.not_eq_true'] at h
      rw [e]; exact s_ite (hc.pt X W sc _ G hs h.1.1).1 (ha.pe X W sc _ G hs h.1.2) (hb.pe X W sc _ G hs h.2) (fun i z => by simp [occ, z]) (fun i z => by simp [occ, z]) (fun i z => by simp [occ, z])
    · cases h) (fun _ _ => by unfold chkT; rfl) (fun _ _ => by unfold chkA; rfl)
theorem snd_nil : Snd t Q Tb ca n N .nil := ⟨fun X W sc e _ _ h => (by unfold chkE at h; cases h), fun X W sc e _ _ h => (by unfold chkT at h; cases h), fun X W sc es G hs h => by
    unfold chkA at h
    have e : evA (Q.ctx n) .nil = fun ρ => .ok ([], ρ) := by funext ρ; rw [evA]
    split at h
    · rw [e]; exact ⟨a_nil, fun m _ => ⟨[], .nil⟩, rfl, fun _ _ _ _ z => by cases z⟩
    · cases h⟩
theorem snd_cons (ha : Snd t Q Tb ca n N a) (hb : Snd t Q Tb ca n N b) : Snd t Q Tb ca n N (.cons a b) := ⟨fun X W sc e _ _ h => (by unfold chkE at h; cases h), fun X W sc e _ _ h => (by unfold chkT at h; cases h), fun X W sc es G hs h => by
    unfold chkA at h
    have e : evA (Q.ctx n) (.cons a b) = fun ρ => (evE (Q.ctx n) a ρ).bind fun (x, ρ1) => (evA (Q.ctx n) b ρ1).bind fun (xs, ρ2) => .ok (x :: xs, ρ2) := by funext ρ; rw [evA]
    split at h
    · simp only [Bool.and_eq_true, decide_eq_true_eq, Bool.not_eq_true'] at h
      obtain ⟨⟨h1, h2⟩, h3⟩ := h
      have k1 := ha.pe X W sc _ G hs h2
      obtain ⟨k2, k3, k4, _⟩ := hb.pa X W sc _ G hs h3
      rw [e]
      refine ⟨a_cons k1 k2 h1 (fun i z => by simp [occ, z]) (fun i z => by simp [occ, z]), fun m hm => ?_, by rw [List.all_cons, h1, k4]; rfl, fun xb xr e er z1 z2 => ?_⟩
      · obtain ⟨ts, k5⟩ := k3 m fun i z => hm i (by simp [occ, z])
        exact ⟨_, .cons (tE_mono k1 fun i z => hm i (by simp [occ, z])) k5⟩
      · cases z1; cases z2
        exact ⟨k1, varOk hs G.names h2, h2⟩
    · cases h⟩
theorem snd_tup (ha : Snd t Q Tb ca n N a) : Snd t Q Tb ca n N (.tup a) := by
  have e : evE (Q.ctx n) (.tup a) = fun ρ => (evA (Q.ctx n) a ρ).bind fun (xs, ρ1) => if xs.length ≤ line then .ok (.tuple xs, ρ1) else .bad := by funext ρ; rw [evE]
  exact snd_e (fun X W sc e' G hs h => by
    unfold chkE at h
    split at h
    · rw [e]; exact s_tup (ha.pa X W sc _ G hs h).1 (fun i z => by simp [occ, z])
    · cases h) (fun _ _ => by unfold chkT; rfl) (fun _ _ => by unfold chkA; rfl)
theorem snd_lst (ha : Snd t Q Tb ca n N a) : Snd t Q Tb ca n N (.lst a) := by
  have e : evE (Q.ctx n) (.lst a) = fun ρ => (evA (Q.ctx n) a ρ).bind fun (xs, ρ1) => if xs.length ≤ line then .ok (.list xs, ρ1) else .bad := by funext ρ; rw [evE]
  exact snd_e (fun X W sc e' G hs h => by
    unfold chkE at h
    split at h
    · rw [e]; exact s_lst (ha.pa X W sc _ G hs h).1 (fun i z => by simp [occ, z])
    · cases h) (fun _ _ => by unfold chkT; rfl) (fun _ _ => by unfold chkA; rfl)
theorem snd_lrep (k : Nat) (ha : Snd t Q Tb ca n N a) : Snd t Q Tb ca n N (.lrep a k) := by
  have e : evE (Q.ctx n) (.lrep a k) = fun ρ => (evA (Q.ctx n) a ρ).bind fun (xs, ρ1) => if xs.length ≤ 1000 ∧ k ≤ 1000 then .ok (.list (reps k xs), ρ1) else .bad := by funext ρ; rw [evE]
  exact snd_e (fun X W sc e' G hs h => by
    unfold chkE at h
    split at h
    · simp only [Bool.and_eq_true, decide_eq_true_eq, Bool.not_eq_true'] at h
      rw [e, h.1]; exact s_lrep (ha.pa X W sc _ G hs h.2).1 (fun i z => by simp [occ, z])
    · cases h) (fun _ _ => by unfold chkT; rfl) (fun _ _ => by unfold chkA; rfl)
theorem snd_ix (ha : Snd t Q Tb ca n N a) (hb : Snd t Q Tb ca n N b) : Snd t Q Tb ca n N (.ix a b) :=
  snd_e (fun X W sc e' G hs h => by
    unfold chkE at h
    split at h
    · simp only [Bool.and_eq_true, decide_eq_true_eq, Bool.not_eq_true'] at h
      exact s_ix _ (ha.pe X W sc _ G hs h.1.2) (varOk hs G.names h.1.2) (hb.pe X W sc _ G hs h.2) h.1.1
    · cases h) (fun _ _ => by unfold chkT; rfl) (fun _ _ => by unfold chkA; rfl)
theorem opt_of {X : Cx} {W : XW} {sc : Scope} {o : Option Expr} {m : Nat → Bool} (G : Good t Q Tb ca n N X W) (hs : X.env.scope = sc) (ha : Snd t Q Tb ca n N a) (h : optC (isZero a) (fun x => chkE t N a sc x) o = true) (hm : ∀ i, occ i a = true → m i = true) :
    PO X o (tP X.K Tb W m (prtR (isZero a) (evE (Q.ctx n) a))) := by
  cases o with
  | none =>
    have h : isZero a = true := h
    rw [h]; exact p_none
  | some e =>
    have h : (!isZero a && chkE t N a sc e) = true := h
    simp only [Bool.and_eq_true, decide_eq_true_eq, Bool.not_eq_true'] at h
    rw [h.1]; exact p_some (ha.pe X W sc _ G hs h.2) hm
theorem snd_sl (ha : Snd t Q Tb ca n N a) (hb : Snd t Q Tb ca n N b) (hc : Snd t Q Tb ca n N c) : Snd t Q Tb ca n N (.sl a b c) := by
  have e : evE (Q.ctx n) (.sl a b c) = fun ρ => (evE (Q.ctx n) a ρ).bind fun (x, ρ1) => (prtR (isZero b) (evE (Q.ctx n) b) ρ1).bind fun (l, ρ2) => (prtR (isZero c) (evE (Q.ctx n) c) ρ2).bind fun (h, ρ3) => (ofOpt (slD x l h)).bind fun z => .ok (z, ρ3) := by funext ρ; rw [evE]
  exact snd_e (fun X W sc e' G hs h => by
    unfold chkE at h
    split at h
    · simp only [Bool.and_eq_true, decide_eq_true_eq, Bool.not_eq_true'] at h
      rw [e]
      exact s_sl (ha.pe X W sc _ G hs h.1.1) (opt_of G hs hb h.1.2 fun _ z => z) (opt_of G hs hc h.2 fun _ z => z) (fun i z => by simp [occ, z]) (fun i z => by simp [occ, z]) (fun i z => by simp [occ, z])
    · cases h) (fun _ _ => by unfold chkT; rfl) (fun _ _ => by unfold chkA; rfl)
theorem bad_call {X : Cx} {W : XW} {m : Nat → Bool} {e : Expr} {f : Rho → R (D × Rho)} (h : ∀ ρ, f ρ = .bad) : PE X e (tE X.K Tb W m f) :=
  ⟨fun pins s σ H Qv I ⟨ρ, k, w, q⟩ => by rw [h ρ] at q; exact q.elim⟩
end
end Fo

set_option Elab.async false
set_option linter.all false
set_option maxRecDepth 100000
set_option maxHeartbeats 4000000
/-! SemR: t[::-1]. -/
namespace HT
open PySem PySem.Spec PyProof.Rows
section
variable {prog : Program} {w : World} {A : Around} {E : Value → Shared → Prop} {s : Shared}
theorem fo_fm {α β : Type} {f g : α → Option β} : ∀ {l : List α}, (∀ x ∈ l, f x = g x) → l.filterMap f = l.filterMap g
  | [], _ => rfl
  | a :: l, h => by
    rw [List.filterMap_cons, List.filterMap_cons, h a List.mem_cons_self, fo_fm fun x hx => h x (List.mem_cons_of_mem _ hx)]
theorem fo_adjust (n : Nat) : Builtin.Slice.sliceAdjust none none (-1) (n : Int) = ((n : Int) - 1, -1) := by
  simp [Builtin.Slice.sliceAdjust]
theorem fo_places (n : Nat) : Builtin.Slice.slicePlaces ((n : Int) - 1) (-1) (-1) = n := by
  unfold Builtin.Slice.slicePlaces
  rw [if_neg (by decide)]
  by_cases h : n = 0
  · subst h; decide
  · rw [if_pos (by omega)]
    have e : ((n : Int) - 1 - -1 - 1) / (- -1) + 1 = (n : Int) := by
      rw [show (- -1 : Int) = 1 by decide, Int.ediv_one]
      omega
    rw [e]; rfl
theorem fo_applied {sl : Addr} {vl vu vs : Value} {n : Nat} {Q : Int × Int × Nat → Shared → Prop} (hs : s.heap.IsSliceOf sl vl vu vs) (pl : IsPart vl none) (pu : IsPart vu none) (ps : IsPart vs (some (-1)))
    (h : Q ((n : Int) - 1, -1, n) s) : wpAny (model prog w) A (Builtin.Slice.sliceApplied (.ref sl) (pure (n : Int))) Q E s := by
  obtain ⟨os, hos, hcs, hds⟩ := id hs
  unfold Builtin.Slice.sliceApplied Builtin.Slice.sliceFields
  refine wpAny_bind (wpAny_bind (wpAny_field hos hds (x := vl) rfl (wpAny_bind (wpAny_field hos hds (x := vu) rfl (wpAny_bind (wpAny_field hos hds (x := vs) rfl (wpAny_pure ?_)))))))
  refine wpAny_bind (slicePart_ ps ?_)
  show wpAny _ _ (if ((-1 : Int) == 0) = true then _ else _) _ _ s
  rw [if_neg (by decide)]
  refine wpAny_bind (slicePart_ pl (wpAny_bind (slicePart_ pu (wpAny_bind (wpAny_pure ?_)))))
  show wpAny _ _ (match Builtin.Slice.sliceAdjust none none (-1) (n : Int) with | (lo, hi) => pure (lo, (-1 : Int), Builtin.Slice.slicePlaces lo hi (-1))) _ _ s
  rw [fo_adjust n]
  show wpAny _ _ (pure ((n : Int) - 1, (-1 : Int), Builtin.Slice.slicePlaces ((n : Int) - 1) (-1) (-1))) _ _ s
  rw [fo_places]
  exact wpAny_pure h
theorem fo_pick (xs : Array Value) : ((List.range xs.size).filterMap fun (m : Nat) => xs[((xs.size : Int) - 1 + (m : Int) * (-1)).toNat]?).toArray = xs.toList.reverse.toArray := by
  have e : (List.range xs.size).filterMap (fun (m : Nat) => xs[((xs.size : Int) - 1 + (m : Int) * (-1)).toNat]?) = ((List.range xs.size).map fun k => xs.size - 1 - k).filterMap (xs[·]?) := by
    rw [List.filterMap_map]
    refine fo_fm fun m hm => ?_
    have := List.mem_range.mp hm
    show xs[((xs.size : Int) - 1 + (m : Int) * (-1)).toNat]? = xs[xs.size - 1 - m]?
    congr 1
    omega
  rw [e, PySem.W.krv_range, List.filterMap_reverse, PySem.W.krv_all]
theorem fo_getItem_rev {t sl : Addr} {items : Array Value} {vl vu vs : Value} {Q : Value → Shared → Prop} (ht : IsTup s.heap t items) (hs : s.heap.IsSliceOf sl vl vu vs) (pl : IsPart vl none) (pu : IsPart vu none) (ps : IsPart vs (some (-1)))
    (h : Q (.ref s.heap.objs.size) { s with heap := s.heap.push { cls := .type "tuple", data := .seq items.toList.reverse.toArray } })
    (hsz : items.size ≤ sizeLine) : wpAny (model prog w) A (getItem (.ref t) (.ref sl)) Q E s := by
  have htake : sizeOk (.seq items.toList.reverse.toArray) := by
    show items.toList.reverse.toArray.size ≤ sizeLine
    rw [List.size_toArray, List.length_reverse, Array.length_toList]
    exact hsz
  obtain ⟨os, hos, hcs, hds⟩ := id hs
  have hTs : s.TypeIs (.ref sl) "slice" := ⟨os, hos, hcs⟩
  unfold getItem
  try with_reducible refine wpAny_holding ?_
  first | refine wpAny_bind (wpAny_pure ?_) | skip
  refine wpAny_bind (wpAny_sequenceKey ht.typeIs (by decide) ?_)
  refine wpAny_bind (wpAny_callSpecial?_slot (name := Str.ofString "__getitem__") ht.typeIs PyProof.Rows.slot_tuple_getitem
    (wpAny_call_entry PyProof.Rows.slot_tuple_getitem ht.typeIs entry_tuple_getitem ?_ (args_tuple_getitem _ _)))
  show wpAny _ _ (Builtin.Tuple.tupleItemsOf (.ref t) >>= _) _ _ s
  refine wpAny_bind (tupleItemsOf_ ht ?_)
  refine wpAny_bind (wpAny_typeOf hTs ?_)
  rw [if_pos (by decide)]
  refine wpAny_bind (fo_applied hs pl pu ps ?_)
  have hno : ¬ ((((items.size : Int) - 1) == 0 && (-1 : Int) == 1 && items.size == items.size) = true) := by
    intro q
    rw [Bool.and_eq_true, Bool.and_eq_true] at q
    exact absurd (eq_of_beq q.1.2) (by decide)
  show wpAny _ _ (if (((items.size : Int) - 1) == 0 && (-1 : Int) == 1 && items.size == items.size) = true then _ else _) _ _ s
  rw [if_neg hno, fo_pick]
  first
    | exact wpAny_bind (m := Builtin.Tuple.tupleExact _) (wpAny_newObj_type (wpAny_pure ⟨_, rfl, wpAny_pure h⟩) htake)
    | exact wpAny_bind (m := Builtin.Tuple.tupleExact _) (wpAny_newObj_type (wpAny_bind (wpAny_pure (wpAny_pure ⟨_, rfl, wpAny_pure h⟩))) htake)
    | exact wpAny_bind (wpAny_bind (m := Builtin.Tuple.tupleExact _) (wpAny_newObj_type (wpAny_pure (wpAny_pure ⟨_, rfl, wpAny_pure h⟩)) htake))
    | exact wpAny_bind (wpAny_bind (m := Builtin.Tuple.tupleExact _) (wpAny_newObj_type (wpAny_pure ⟨_, rfl, wpAny_pure h⟩) htake))
end
end HT
namespace L2
open PySem PySem.Spec PyProof.Rows
def tRevA (K : PySem.W.Frag) (te : TE) : TE := fun σ H Q => te σ H fun x H1 => ∃ a xs, x = .ref a ∧ ((SqL K H1 a xs ∧ ∀ p, H1 p = none → Q (.ref p) (upd H1 p (.lst xs.reverse))) ∨ (SqT K H1 a xs ∧ ∀ p, H1 p = none → Q (.ref p) (upd H1 p (.tup xs.reverse))))
theorem pe_revA {X : Cx} {e : Expr} {te : TE} {k : Nat} {p1 p2 p3 pos : Pos} (he : PE X e te) : PE X (.Subscript e (.Slice none none (some (.UnaryOp .USub (.Constant (.int 1) k p1) p2)) p3) pos) (tRevA X.K te) := by
  refine ⟨fun pins s σ H Q I h => ?_⟩
  refine Subscript_ (thn (he.run pins s σ H _ I h) fun v s1 ⟨x, H1, I1, r1, q1⟩ => ?_)
  obtain ⟨a, xs, ex, q⟩ := q1
  subst ex
  cases r1
  have hst : PO X (some (.UnaryOp .USub (.Constant (.int 1) k p1) p2)) (tPart (tUn (rU fun i => .int (-i)) (tC (.int 1)))) := po_some (pe_un un_neg pe_int)
  refine wpAny_Slice (thn (po_none.run pins s1 σ H1 (fun o H2 => o = none ∧ H2 = H1) I1 ⟨rfl, rfl⟩) fun vl s2 ⟨l, H2, I2, pl, el, e2⟩ => ?_)
  subst el e2
  refine thn (po_none.run pins s2 σ H2 (fun o H3 => o = none ∧ H3 = H2) I2 ⟨rfl, rfl⟩) fun vu s3 ⟨u, H3, I3, pu, eu, e3⟩ => ?_
  subst eu e3
  refine thn (hst.run pins s3 σ H3 (fun o H4 => o = some (-1) ∧ H4 = H3) I3 ⟨1, rfl, -1, rfl, rfl, rfl⟩) fun vs s4 ⟨o, H4, I4, ps, eo, e4⟩ => ?_
  subst eo e4
  have I5 : Inv X pins σ H4 { s4 with heap := s4.heap.push { cls := .type "slice", data := .fields #[vl, vu, vs] } } := I4.kept (t' := s4.toks) fun b ob q => Heap.get?_push_of_some _ q
  rcases q with ⟨hx, q⟩ | ⟨hx, q⟩
  · obtain ⟨its, r, ht, hz⟩ := I5.list hx
    have hlen := r.length
    show wpAny (model X.prog X.w) X.A (subscriptTail e (.Slice none none (some (.UnaryOp .USub (.Constant (.int 1) k p1) p2)) p3) (.ref a) (.ref s4.heap.objs.size)) (EP X pins σ Q) X.xe { s4 with heap := s4.heap.push { cls := .type "slice", data := .fields #[vl, vu, vs] } }
    refine tail_any (ops := [.ref a, .ref s4.heap.objs.size]) ht.isList.typeIs (PySem.slot_list_getitem.lookup) ?_ (by with_unfolding_all rfl)
    refine wpAny_getItem_list_slice ht.isList (Heap.IsSliceOf.new _ vl vu vs) pl pu ps (by decide) ?_ (by rw [List.size_toArray]; omega)
    rw [PySem.W.krv_pick]
    refine ⟨.ref _, _, I5.laid (t' := s4.toks) (o := .lst xs.reverse) (fun b ob q => Heap.get?_push_of_some _ q) (Nat.le_refl _) ?_, rfl, q _ (I5.hok.fresh (Nat.le_refl _))⟩
    exact ⟨by rw [List.length_reverse]; exact hz, _, 0, r.reverse, Heap.get?_push_size _ rfl⟩
  · obtain ⟨its, r, ht, hz⟩ := I5.tuple hx
    have hlen := r.length
    show wpAny (model X.prog X.w) X.A (subscriptTail e (.Slice none none (some (.UnaryOp .USub (.Constant (.int 1) k p1) p2)) p3) (.ref a) (.ref s4.heap.objs.size)) (EP X pins σ Q) X.xe { s4 with heap := s4.heap.push { cls := .type "slice", data := .fields #[vl, vu, vs] } }
    refine tail_any (ops := [.ref a, .ref s4.heap.objs.size]) ht.typeIs (PyProof.Rows.slot_tuple_getitem.lookup) ?_ (by with_unfolding_all rfl)
    refine HT.fo_getItem_rev ht (Heap.IsSliceOf.new _ vl vu vs) pl pu ps ?_ (by rw [List.size_toArray]; omega)
    refine ⟨.ref _, _, I5.laid (t' := s4.toks) (o := .tup xs.reverse) (fun b ob q => Heap.get?_push_of_some _ q) (Nat.le_refl _) ?_, rfl, q _ (I5.hok.fresh (Nat.le_refl _))⟩
    exact ⟨by rw [List.length_reverse]; exact hz, _, r.reverse, IsTup.new _ _⟩
end L2
namespace L2
open PySem
theorem DpAll.revD {K : PySem.W.Frag} {H : Hp} : ∀ {vs : List V} {ds : List PyData}, DpAll K H vs ds → DpAll K H vs.reverse ds.reverse
  | _, _, .nil => .nil
  | _, _, .cons h t => by rw [List.reverse_cons, List.reverse_cons]; exact DpAll.appD (DpAll.revD t) (.cons h .nil)
end L2
namespace Fo
open PySem L2 LamX PyProof.Rows
theorem s_rev {X : Cx} {Tb : Tbs} {W : XW} {m ma : Nat → Bool} {fa : Rho → R (PyData × Rho)} {a : Expr} {k : Nat} {p1 p2 p3 pos : Pos} (ha : PE X a (tE X.K Tb W ma fa)) (hma : ∀ i, ma i = true → m i = true) :
    PE X (.Subscript a (.Slice none none (some (.UnaryOp .USub (.Constant (.int 1) k p1) p2)) p3) pos) (tE X.K Tb W m fun ρ => (fa ρ).bind fun (x, ρ1) => (ofOpt (revD x)).bind fun z => .ok (z, ρ1)) := by
  refine (pe_revA ha).weaken fun σ H Q ⟨ρ, k, w, h⟩ => ⟨ρ, k, w, pG_mono (pG_bind h) hma fun d ρ1 k1 H1 t1 w1 h1 v hv => ?_⟩
  cases d with
  | list xs =>
    cases hv with
    | @lst _ vs _ g1 g2 =>
      refine ⟨_, _, rfl, .inl ⟨w1.sub.seq g1, fun p hp => ?_⟩⟩
      have px := Px.alloc w1.sub hp (o := .lst vs.reverse) (fun ps z => by cases z)
      have h2 : pG X.K Tb W m σ ρ1 k1 H1 (.ok (PyData.list xs.reverse, ρ1)) fun d _ k1 H1 => ∀ v, Dp X.K k1 v d → Q v H1 := h1
      exact pG_okx h2 w1 px _ (.lst (.of upd_same) (dps_mono px.kk g2.revD))
  | tuple xs =>
    cases hv with
    | @tup _ vs _ g1 g2 =>
      refine ⟨_, _, rfl, .inr ⟨sqt_mono w1.sub g1, fun p hp => ?_⟩⟩
      have px := Px.alloc w1.sub hp (o := .tup vs.reverse) (fun ps z => by cases z)
      have h2 : pG X.K Tb W m σ ρ1 k1 H1 (.ok (PyData.tuple xs.reverse, ρ1)) fun d _ k1 H1 => ∀ v, Dp X.K k1 v d → Q v H1 := h1
      exact pG_okx h2 w1 px _ (.tup (.of upd_same) (dps_mono px.kk g2.revD))
  | _ => exact h1.elim
end Fo

set_option Elab.async false
set_option linter.all false
set_option maxRecDepth 100000
set_option maxHeartbeats 4000000
/-! SemB9: the rest of the expressions. -/
namespace Fo
open PySem L2 LamX PyProof.Rows
section
variable {t : Tx} {Q : Prog} {Tb : Tbs} {ca : Nat → Addr} {n : Nat} {N : List Str} {a b c : Ex} {as : Ex}
theorem bad_bind {α β : Type} {r : R α} {g : α → R β} (h : ∀ x, r = .ok x → g x = .bad) (hx : ∀ c, r ≠ .exc c) : r.bind g = .bad := by
  cases r with
  | ok x => exact h x rfl
  | exc c => exact absurd rfl (hx c)
  | bad => rfl
theorem noDef {f : Nat} (h : Q.defs f = none) (ds : List D) : callF Q n f ds = .bad := by
  cases n with
  | zero => rfl
  | succ n => rw [callF_succ, h]
/-- a run that nothing is said of behind what is evaluated ahead of it -/
theorem pe_bad2 {X : Cx} {W : XW} {m ms : Nat → Bool} {e : Expr} {fs : Rho → R (List D × Rho)} {g : List D × Rho → R (D × Rho)} {es : List Expr} {x : Str} {p pos : Pos} (h : ∀ z, g z = .bad) :
    ∀ ρ, (fs ρ).bind g = .bad ∨ ∃ c, fs ρ = .exc c := by
  intro ρ
  cases fs ρ with
  | ok z => exact .inl (h z)
  | exc c => exact .inr ⟨c, rfl⟩
  | bad => exact .inl rfl
theorem t_call {X : Cx} {W : XW} {sc : Scope} {e : Expr} {f : Nat} {F : Df} (G : Good t Q Tb ca n N X W) (hs : X.env.scope = sc) (ha : Snd t Q Tb ca n N as) (hF : Q.defs f = some F) (h : chkE t N (.call f as) sc e = true) :
    PE X e (tR X.K Tb W (fun i => occ i (.call f as)) F.own (evE (Q.ctx n) (.call f as))) := by
  unfold chkE at h
  split at h
  · simp only [Bool.and_eq_true, Bool.not_eq_true'] at h
    obtain ⟨⟨h1, h2⟩, h3⟩ := h
    split at h1
    · rename_i y hy
      obtain ⟨e1, e2, e3, e4⟩ := gl_of hs h1
      subst e1
      have e : evE (Q.ctx n) (.call f as) = fun ρ => (evA (Q.ctx n) as ρ).bind fun (xs, ρ1) => (callF Q n f xs).bind fun (d, _) => .ok (d, ρ1) := by funext ρ; rw [evE]; rfl
      obtain ⟨k1, _, k2, _⟩ := ha.pa X W sc _ G hs h3
      rw [e]
      exact s_call G e2 hy hF h2 e3 k1 k2 (fun i z => by simp [occ, z])
    · cases h1
  · cases h
theorem ev_call_list {f : Nat} {F : Df} (hF : Q.defs f = some F) (ho : F.own = true) : ∀ ρ d ρ1, evE (Q.ctx n) (.call f as) ρ = .ok (d, ρ1) → ∃ xs, d = .list xs := by
  intro ρ d ρ1 h
  rw [evE] at h
  cases q : evA (Q.ctx n) as ρ with
  | bad => rw [q] at h; cases h
  | exc c => rw [q] at h; cases h
  | ok z =>
    obtain ⟨xs, ρ2⟩ := z
    rw [q] at h
    have h : (callF Q n f xs).bind (fun (d, _) => R.ok (d, ρ2)) = .ok (d, ρ1) := h
    cases q2 : callF Q n f xs with
    | bad => rw [q2] at h; cases h
    | exc c => rw [q2] at h; cases h
    | ok z =>
      obtain ⟨d', zs⟩ := z
      rw [q2] at h
      cases h
      exact call_list hF ho q2
/-- every def that the text's table names is a def -/
def DefsOk (t : Tx) (Q : Prog) : Prop := ∀ f y, t.fn f = some y → ∃ F, Q.defs f = some F ∧ F.io = t.io f ∧ F.own = t.own f
theorem snd_call (D : DefsOk t Q) (f : Nat) (ha : Snd t Q Tb ca n N as) : Snd t Q Tb ca n N (.call f as) := snd_e (fun X W sc e G hs h => by
    have h0 := h
    unfold chkE at h
    split at h
    · simp only [Bool.and_eq_true, Bool.not_eq_true'] at h
      obtain ⟨⟨h1, _⟩, _⟩ := h
      split at h1
      · rename_i y hy
        obtain ⟨F, hF, _, _⟩ := D f y hy
        have k := t_call G hs ha hF h0
        unfold tR at k
        by_cases ho : F.own = true
        · rw [if_pos ho] at k
          exact F2E k (ev_call_list hF ho)
        · rw [if_neg ho] at k
          exact k
      · cases h1
    · cases h) (fun _ _ => by unfold chkT; rfl) (fun _ _ => by unfold chkA; rfl)
theorem snd_callIo (D : DefsOk t Q) (f i : Nat) (ha : Snd t Q Tb ca n N as) : Snd t Q Tb ca n N (.callIo f i as) := snd_e (fun X W sc e G hs h => by
    unfold chkE at h
    split at h
    · simp only [Bool.and_eq_true, Bool.not_eq_true'] at h
      obtain ⟨⟨⟨⟨h1, h2⟩, h3⟩, h4⟩, h5⟩ := h
      split at h1
      · rename_i y hy
        obtain ⟨F, hF, _, _⟩ := D f y hy
        obtain ⟨e1, e2, e3, e4⟩ := gl_of hs h1
        subst e1
        obtain ⟨x, p, rfl, g1, g2, g3, g4⟩ := slN_of hs G.names h4
        have e : evE (Q.ctx n) (.callIo f i as) = fun ρ => (ownAt ρ i).bind fun _ => (evA (Q.ctx n) as ρ).bind fun (xs, ρ1) => (ownAt ρ1 i).bind fun ys => (callF Q n f (.list ys :: xs)).bind fun (d, zs) => .ok (d, ρ1.set i (.own (.list zs))) := by funext ρ; rw [evE]; rfl
        obtain ⟨k1, _, k2, _⟩ := ha.pa X W sc _ G hs h5
        rw [e]
        exact s_callIo G e2 hy hF h2 h3 e3 g1 g2 g3 g4 k1 k2 (fun i z => by simp [occ, z]) (by simp [occ])
      · cases h1
    · cases h) (fun _ _ => by unfold chkT; rfl) (fun _ _ => by unfold chkA; rfl)
theorem peekL_other {b : Bi} {as : Ex} {f : Rho → R (List D × Rho)} (h : b ≠ .len) : peekL b as f = f := by
  funext ρ
  unfold peekL
  cases b <;> first | rfl | exact absurd rfl h
theorem snd_bi (bi : Bi) (ha : Snd t Q Tb ca n N as) : Snd t Q Tb ca n N (.bi bi as) := snd_e (fun X W sc e G hs h => by
    unfold chkE at h
    split at h
    · rename_i x p g es pos
      simp only [Bool.and_eq_true, decide_eq_true_eq] at h
      obtain ⟨⟨⟨⟨h1, h2⟩, h3⟩, h4⟩, h5⟩ := h
      obtain ⟨_, e2, e3, e4⟩ := gl_of hs h3
      obtain ⟨k1, _, k2, k3⟩ := ha.pa X W sc _ G hs h5
      have hm : ∀ y ∈ btNames, x = y → X.mg x = none := fun y hy z => by rw [z]; exact G.ok.bt y hy
      by_cases hl : bi = .len
      · subst hl
        have es0 : es = [] := by
          dsimp only at h4
          split at h4
          · rfl
          · cases h4
        subst es0
        cases as with
        | cons xa xr =>
          have h5' := h5
          unfold chkA at h5'
          simp only [Bool.and_eq_true] at h5'
          have xr0 : xr = .nil := by
            have := h5'.2
            cases xr <;> first | rfl | (unfold chkA at this; cases this)
          subst xr0
          obtain ⟨k4, k5, k6⟩ := k3 xa .nil g [] rfl rfl
          exact s_len _ e2 h2 (hm _ (by decide) h2) e4 e3 k4 k5 h5'.1.1
        | _ => unfold chkA at h5; cases h5
      · have e : evE (Q.ctx n) (.bi bi as) = fun ρ => (evA (Q.ctx n) as ρ).bind fun (xs, ρ1) => (ofOpt (biD bi xs)).bind fun z => .ok (z, ρ1) := by funext ρ; rw [evE, peekL_other hl]
        rw [e]
        have hmm : ∀ i, occ i as = true → occ i (.bi bi as) = true := fun i z => by simp [occ, z]
        cases bi with
        | len => exact absurd rfl hl
        | abs => subst h2; exact s_bi bi_abs e2 (G.ok.bt _ (by decide)) boot_abs e4 e3 k1 k2 hmm
        | int => subst h2; exact s_biT bi_int e2 (G.ok.bt _ (by decide)) boot_int e4 e3 k1 k2 hmm
        | str => subst h2; exact s_biT bi_str e2 (G.ok.bt _ (by decide)) boot_str e4 e3 k1 k2 hmm
        | list => subst h2; exact s_biT bi_list e2 (G.ok.bt _ (by decide)) boot_list e4 e3 k1 k2 hmm
        | tuple => subst h2; exact s_biT bi_tuple e2 (G.ok.bt _ (by decide)) boot_tuple e4 e3 k1 k2 hmm
        | all => subst h2; exact s_bi (bi_all G.calm) e2 (G.ok.bt _ (by decide)) boot_all e4 e3 k1 k2 hmm
        | any => subst h2; exact s_bi (bi_any G.calm) e2 (G.ok.bt _ (by decide)) boot_any e4 e3 k1 k2 hmm
        | bool => subst h2; exact s_biT bi_bool e2 (G.ok.bt _ (by decide)) boot_bool e4 e3 k1 k2 hmm
        | min2 => subst h2; exact s_bi (bi_min2 G.calm) e2 (G.ok.bt _ (by decide)) boot_min e4 e3 k1 k2 hmm
        | sset => cases h1
        | lset => cases h1
        | minl => cases h1
        | sorted => cases h1
    · cases h) (fun _ _ => by unfold chkT; rfl) (fun _ _ => by unfold chkA; rfl)
theorem snd_isi (ty : Ty) (ha : Snd t Q Tb ca n N a) : Snd t Q Tb ca n N (.isi a ty) := snd_e (fun X W sc e G hs h => by
    unfold chkE at h
    split at h
    · simp only [Bool.and_eq_true, decide_eq_true_eq] at h
      obtain ⟨⟨⟨⟨⟨h1, h2⟩, h3⟩, h4⟩, h5⟩, h6⟩ := h
      obtain ⟨_, e2, e3, e4⟩ := gl_of hs h2
      obtain ⟨_, f2, f3, f4⟩ := gl_of hs h4
      have e : evE (Q.ctx n) (.isi a ty) = fun ρ => (evE (Q.ctx n) a ρ).bind fun (x, ρ1) => (ofOpt (isD x ty)).bind fun z => .ok (z, ρ1) := by funext ρ; rw [evE]
      rw [e]
      refine s_isi e2 h1 (by rw [h1]; exact G.ok.bt _ (by decide)) e4 e3 f2 h3 ?_ f4 f3 (ha.pe X W sc _ G hs h6) h5 (fun i z => by simp [occ, z])
      rw [h3]
      cases ty <;> exact G.ok.bt _ (by decide)
    · cases h) (fun _ _ => by unfold chkT; rfl) (fun _ _ => by unfold chkA; rfl)
theorem snd_pop (i : Nat) : Snd t Q Tb ca n N (.pop i) := snd_e (fun X W sc e G hs h => by
    unfold chkE at h
    split at h
    · simp only [Bool.and_eq_true, decide_eq_true_eq] at h
      obtain ⟨⟨⟨h1, h2⟩, h3⟩, h4⟩ := h
      subst h1
      obtain ⟨g1, g2, g3, g4⟩ := ckV_of h4
      have e : evE (Q.ctx n) (.pop i) = fun ρ => (ownAt ρ i).bind fun ys => match ys with | x :: xs => .ok (x, ρ.set i (.own (.list xs))) | [] => .bad := by
        funext ρ; first | (rw [evE]; done) | (rw [evE]; congr 1)
      rw [e]
      exact s_pop h2 h3 (by rw [G.names]; exact g1) (by rw [hs]; exact g2) g3 g4 (by simp [occ])
    · cases h) (fun _ _ => by unfold chkT; rfl) (fun _ _ => by unfold chkA; rfl)
theorem snd_dget (i : Nat) (ha : Snd t Q Tb ca n N a) : Snd t Q Tb ca n N (.dget i a) := snd_e (fun X W sc e G hs h => by
    unfold chkE at h
    split at h
    · simp only [Bool.and_eq_true, decide_eq_true_eq] at h
      obtain ⟨⟨h1, h2⟩, h3⟩ := h
      obtain ⟨x, p, rfl, g1, g2, g3, g4⟩ := slN_of hs G.names h1
      have e : evE (Q.ctx n) (.dget i a) = fun ρ => (dictAt ρ i).bind fun _ => (evE (Q.ctx n) a ρ).bind fun (z, ρ1) => (dictAt ρ1 i).bind fun kvs => if isStr z = true then (ofOpt (lookS kvs z)).bind fun v => .ok (v, ρ1) else .bad := by funext ρ; rw [evE]
      rw [e]
      exact s_dget G.room g1 g2 g3 g4 (ha.pe X W sc _ G hs h3) h2 (fun i z => by simp [occ, z])
    · cases h) (fun _ _ => by unfold chkT; rfl) (fun _ _ => by unfold chkA; rfl)
theorem snd_dgetN (i : Nat) (ha : Snd t Q Tb ca n N a) : Snd t Q Tb ca n N (.dgetN i a) := snd_e (fun X W sc e G hs h => by
    unfold chkE at h
    split at h
    · simp only [Bool.and_eq_true, decide_eq_true_eq] at h
      obtain ⟨⟨⟨⟨h1, h2⟩, h3⟩, h4⟩, h5⟩ := h
      obtain ⟨x, p, rfl, g1, g2, g3, g4⟩ := slN_of hs G.names h1
      have e : evE (Q.ctx n) (.dgetN i a) = fun ρ => (dictAt ρ i).bind fun _ => (evE (Q.ctx n) a ρ).bind fun (z, ρ1) => (dictAt ρ1 i).bind fun kvs => if isStr z = true then .ok ((lookS kvs z).getD .none, ρ1) else .bad := by funext ρ; rw [evE]
      rw [e]
      exact s_dgetN G.room h2 h3 g1 g2 g3 g4 (ha.pe X W sc _ G hs h5) h4 (fun i z => by simp [occ, z])
    · cases h) (fun _ _ => by unfold chkT; rfl) (fun _ _ => by unfold chkA; rfl)
theorem snd_dgetD (i : Nat) (ha : Snd t Q Tb ca n N a) (hb : Snd t Q Tb ca n N b) : Snd t Q Tb ca n N (.dgetD i a b) := snd_e (fun X W sc e G hs h => by
    unfold chkE at h
    split at h
    · simp only [Bool.and_eq_true, decide_eq_true_eq] at h
      obtain ⟨⟨⟨⟨⟨⟨h1, h2⟩, h3⟩, h4⟩, h5⟩, h6⟩, h7⟩ := h
      obtain ⟨x, p, rfl, g1, g2, g3, g4⟩ := slN_of hs G.names h1
      have e : evE (Q.ctx n) (.dgetD i a b) = fun ρ => (dictAt ρ i).bind fun _ => (evE (Q.ctx n) a ρ).bind fun (z, ρ1) => (evE (Q.ctx n) b ρ1).bind fun (u, ρ2) => (dictAt ρ2 i).bind fun kvs => if isStr z = true then .ok ((lookS kvs z).getD u, ρ2) else .bad := by funext ρ; rw [evE]
      rw [e]
      exact s_dgetD G.room h2 h3 g1 g2 g3 g4 (ha.pe X W sc _ G hs h6) h4 (hb.pe X W sc _ G hs h7) h5 (fun i z => by simp [occ, z]) (fun i z => by simp [occ, z])
    · cases h) (fun _ _ => by unfold chkT; rfl) (fun _ _ => by unfold chkA; rfl)
theorem snd_din (i : Nat) (ha : Snd t Q Tb ca n N a) : Snd t Q Tb ca n N (.din i a) := by
  have e : evE (Q.ctx n) (.din i a) = fun ρ => (evE (Q.ctx n) a ρ).bind fun (z, ρ1) => (dictAt ρ1 i).bind fun kvs => if isStr z = true then .ok (.bool (lookS kvs z).isSome, ρ1) else .bad := by funext ρ; rw [evE]
  exact snd_et (fun X W sc e' G hs h => by
    unfold chkE at h
    split at h
    · simp only [Bool.and_eq_true, decide_eq_true_eq] at h
      obtain ⟨x, p, rfl, g1, g2, g3, g4⟩ := slN_of hs G.names h.1
      rw [e]
      exact s_din G.room g1 g2 g3 g4 (ha.pe X W sc _ G hs h.2) (fun i z => by simp [occ, z])
    · cases h) (fun X W sc e' G hs h => by
    unfold chkT at h
    split at h
    · simp only [Bool.and_eq_true, decide_eq_true_eq] at h
      obtain ⟨x, p, rfl, g1, g2, g3, g4⟩ := slN_of hs G.names h.1
      rw [e]
      exact ⟨t_din G.room g1 g2 g3 g4 (ha.pe X W sc _ G hs h.2) (fun i z => by simp [occ, z]), noBool fun _ _ _ z => by cases z⟩
    · cases h) (fun _ _ => by unfold chkA; rfl)
theorem snd_mth (mm : Me) (ha : Snd t Q Tb ca n N a) (hb : Snd t Q Tb ca n N as) : Snd t Q Tb ca n N (.mth mm a as) := snd_e (fun X W sc e G hs h => by
    unfold chkE at h
    split at h
    · simp only [Bool.and_eq_true, decide_eq_true_eq] at h
      obtain ⟨⟨⟨⟨⟨h1, h2⟩, h3⟩, h4⟩, h5⟩, h6⟩ := h
      have e : evE (Q.ctx n) (.mth mm a as) = fun ρ => (evE (Q.ctx n) a ρ).bind fun (x, ρ1) => if meOk mm x = true then (evA (Q.ctx n) as ρ1).bind fun (xs, ρ2) => (ofOpt (mthD mm x xs)).bind fun z => .ok (z, ρ2) else .bad := by funext ρ; rw [evE]
      rw [e]
      have k1 := (hb.pa X W sc _ G hs h6).1
      cases mm with
      | split => exact s_split h1 h2 (ha.pe X W sc _ G hs h5) k1 h3 h4 (fun i z => by simp [occ, z]) (fun i z => by simp [occ, z])
      | join => exact s_join h1 h2 (ha.pe X W sc _ G hs h5) k1 h3 h4 (fun i z => by simp [occ, z]) (fun i z => by simp [occ, z])
      | index => exact s_index h1 h2 (ha.pe X W sc _ G hs h5) k1 h3 h4 (fun i z => by simp [occ, z]) (fun i z => by simp [occ, z])
    · cases h) (fun _ _ => by unfold chkT; rfl) (fun _ _ => by unfold chkA; rfl)
theorem f_disp {X : Cx} {W : XW} {sc : Scope} {ks : List Str} {keys : List (Option Expr)} {vals : List Expr} {pos : Pos} {m : Nat → Bool} (G : Good t Q Tb ca n N X W) (hs : X.env.scope = sc) (ha : Snd t Q Tb ca n N as)
    (hk : dks ks keys = true) (hl : ks.length = vals.length) (h0 : ks ≠ []) (h15 : ks.length ≤ 15) (hc : chkA t N as sc vals = true) (hm : ∀ i, occ i as = true → m i = true) :
    PE X (.Dict keys vals pos) (tF X.K Tb W m fun ρ => (evA (Q.ctx n) as ρ).bind fun (xs, ρ1) => (ofOpt (mkDict ks xs)).bind fun kvs => .ok (.dict kvs, ρ1)) := by
  obtain ⟨_, k, _⟩ := ha.pa X W sc _ G hs hc
  obtain ⟨ts, k⟩ := k m hm
  refine f_dict (dks_of hk) k hl (fun z => ?_) h15
  subst z
  cases ks with
  | nil => exact h0 rfl
  | cons _ _ => cases hk
theorem snd_dix (ks : List Str) (ha : Snd t Q Tb ca n N as) (hb : Snd t Q Tb ca n N b) : Snd t Q Tb ca n N (.dix ks as b) := snd_e (fun X W sc e G hs h => by
    unfold chkE at h
    split at h
    · simp only [Bool.and_eq_true, decide_eq_true_eq] at h
      obtain ⟨⟨⟨⟨⟨⟨h1, h2⟩, h3⟩, h4⟩, h5⟩, h6⟩, h7⟩ := h
      have e : evE (Q.ctx n) (.dix ks as b) = fun ρ => (evA (Q.ctx n) as ρ).bind fun (xs, ρ1) => (ofOpt (mkDict ks xs)).bind fun kvs => (evE (Q.ctx n) b ρ1).bind fun (z, ρ2) => if isStr z = true then (ofOpt (lookS kvs z)).bind fun v => .ok (v, ρ2) else .bad := by funext ρ; rw [evE]
      rw [e]
      exact s_dix G.room (f_disp G hs ha h2 h3 h4 h5 h6 fun _ z => z) (hb.pe X W sc _ G hs h7) h1 (fun i z => by simp [occ, z]) (fun i z => by simp [occ, z])
    · cases h) (fun _ _ => by unfold chkT; rfl) (fun _ _ => by unfold chkA; rfl)

theorem snd_rev (ha : Snd t Q Tb ca n N a) : Snd t Q Tb ca n N (.rev a) := by
  have e : evE (Q.ctx n) (.rev a) = fun ρ => (evE (Q.ctx n) a ρ).bind fun (x, ρ1) => (ofOpt (revD x)).bind fun z => .ok (z, ρ1) := by funext ρ; rw [evE]
  exact snd_e (fun X W sc e' G hs h => by
    unfold chkE at h
    split at h
    · simp only [Bool.and_eq_true, decide_eq_true_eq] at h
      obtain ⟨h1, h2⟩ := h
      subst h1
      rw [e]
      exact s_rev (ha.pe X W sc _ G hs h2) (fun i z => by simp [occ, z])
    · cases h) (fun _ _ => by unfold chkT; rfl) (fun _ _ => by unfold chkA; rfl)
/-! ### a lambda -/
theorem noPar_of {a : Arguments} (h : noPar a = true) : a = { posonlyargs := [], args := [], vararg := none, kwonlyargs := [], kw_defaults := [], kwarg := none, defaults := [] } := by
  obtain ⟨a1, a2, a3, a4, a5, a6, a7⟩ := a
  unfold noPar at h
  simp only [Bool.and_eq_true, List.isEmpty_iff, Option.isNone_iff_eq_none] at h
  obtain ⟨⟨⟨⟨⟨⟨h1, h2⟩, h3⟩, h4⟩, h5⟩, h6⟩, h7⟩ := h
  subst h1 h2 h3 h4 h5 h6 h7
  rfl
theorem noOwn_of {b : Ex} {ρ : Rho} {σ : L2.St} {i : Nat} {a : Addr} (h : noOwnIn b ρ = true) (hi : occ i b = true) : ¬ Own σ ρ i a := by
  rintro ⟨⟨d, e⟩, _⟩
  unfold noOwnIn at h
  rw [List.all_eq_true] at h
  have := h i (List.mem_range.mpr (List.getElem?_eq_some_iff.mp e).1)
  rw [hi, e] at this
  cases this
/-- between heaps: all but the tables stays -/
theorem wf_ext {K : PySem.W.Frag} {σ : L2.St} {ρ : Rho} {k H H1 : Hp} (w : WF K Tb σ ρ k H) (e : ∀ b o, H b = some o → (∀ ps, o ≠ .tbl ps) → H1 b = some o) (tb : Tabs Tb H1) : WF K Tb σ ρ k H1 where
  sub := fun b o hb => e b o (w.sub b o hb) fun ps z => by subst z; exact w.ntb b ps hb
  ntb := w.ntb
  tab := tb
  len := w.len
  val := w.val
  own := fun i d h => by
    obtain ⟨a, g1, g2, g3⟩ := w.own i d h
    exact ⟨a, g1, g2, g3.mono (fun _ _ h => h) (e a)⟩
  dis := w.dis
theorem tr_ext {m : Nat → Bool} {σ : L2.St} {ρ : Rho} {k H H1 : Hp} (e : ∀ b o, H b = some o → (∀ ps, o ≠ .tbl ps) → H1 b = some o) (d : ∀ b, H b ≠ none → H1 b ≠ none) (tb : Tabs Tb H1) : Tr Tb m σ ρ k H ρ k H1 :=
  ⟨fun _ _ h => h, fun _ h => .inl h, fun a o h n => .inl (e a o h n), d, fun _ _ => rfl, fun _ _ h => h, fun _ => tb⟩
theorem i_lam {K : PySem.W.Frag} {ca : Nat → Addr} {W : XW} {b : Ex} {g : R PyData → Option PyData} {fb : Rho → R (PyData × Rho)} {σ : L2.St} {H : Hp} {Qv : VK}
    (h : tE K Tb W (fun i => occ i b) (fun ρ => if noOwnIn b ρ = true then lamFin g ρ (fb ρ) else .bad) σ H Qv) :
    tLamN Tb (TTof K Tb ca g) (fun E => tE K Tb (fun c _ H => E (.ref (ca c)) none H) (fun i => occ i b) fb) σ H Qv := by
  obtain ⟨ρ, k, w, h⟩ := h
  refine ⟨w.tab, fun H1 eN dN T1 => ?_⟩
  obtain ⟨hno, h⟩ := pG_if' h
  have w1 := wf_ext w eN T1
  refine ⟨ρ, k, w1, ?_⟩
  cases r : fb ρ with
  | bad => rw [r] at h; exact h.elim
  | exc c =>
    rw [r] at h
    intro H2 tx
    have e2 : ∀ b' o, H b' = some o → (∀ ps, o ≠ .tbl ps) → H2 b' = some o := fun b' o hb n => (tx.1 b' o (eN b' o hb n) n).elim id fun ⟨i, hi, o⟩ => absurd o (noOwn_of hno hi)
    have w2 := wf_ext w e2 tx.2.2
    refine ⟨c, k, rfl, rfl, w2.sub, tx.2.2, w.ntb, fun H4 kp => ?_⟩
    have h : pG K Tb W (fun i => occ i b) σ ρ k H ((ofOpt (g (.exc c))).bind fun e => .ok (e, ρ)) fun d _ k1 H1 => ∀ v, Dp K k1 v d → Qv v H1 := h
    cases q : g (.exc c) with
    | none => rw [q] at h; exact h.elim
    | some e =>
      rw [q] at h
      intro v k3 H3 px hv
      have e3 : ∀ b' o, H b' = some o → (∀ ps, o ≠ .tbl ps) → H4 b' = some o := fun b' o hb n => kp.1 b' o (e2 b' o hb n) n
      exact h k3 H3 ((tr_ext e3 (fun b' z => kp.2.1 b' (tx.2.1 b' (dN b' z))) kp.2.2).trans px.tr) ((wf_ext w e3 kp.2.2).px px) v hv
  | ok p =>
    obtain ⟨d, ρ1⟩ := p
    rw [r] at h
    intro k2 H2 t2 w2 v hv
    refine ⟨k2, d, w2.sub, w2.tab, hv, ?_⟩
    have h : pG K Tb W (fun i => occ i b) σ ρ k H ((ofOpt (g (.ok d))).bind fun e => .ok (e, ρ1)) fun d _ k1 H1 => ∀ v, Dp K k1 v d → Qv v H1 := h
    cases q : g (.ok d) with
    | none => rw [q] at h; exact h.elim
    | some e =>
      rw [q] at h
      intro v' k3 H3 px hv'
      exact h k3 H3 (((tr_ext eN dN T1).trans t2).trans px.tr) (w2.px px) v' hv'
theorem tE_imp {K : PySem.W.Frag} {W W' : XW} {m : Nat → Bool} {f : Rho → R (PyData × Rho)} {σ : L2.St} {H : Hp} {Qv Q' : VK} (hW : ∀ c σ H, W c σ H → W' c σ H) (hQ : ∀ v H, Qv v H → Q' v H) (h : tE K Tb W m f σ H Qv) : tE K Tb W' m f σ H Q' := by
  obtain ⟨ρ, k, w, h⟩ := h
  refine ⟨ρ, k, w, ?_⟩
  cases r : f ρ with
  | bad => rw [r] at h; exact h.elim
  | exc c => rw [r] at h; exact fun H1 tx => hW _ _ _ (h H1 tx)
  | ok p =>
    obtain ⟨d, ρ1⟩ := p
    rw [r] at h
    exact fun k1 H1 t w1 v hv => hQ _ _ (h k1 H1 t w1 v hv)
theorem snd_lam (D : DefsOk t Q) (f : Nat) (hb : ∀ (t : Tx) (n : Nat), DefsOk t Q → Snd t Q Tb ca n N b) : Snd t Q Tb ca n N (.lam f b) := snd_e (fun X W sc e G hs h => by
    unfold chkE at h
    split at h
    · rename_i x p ps body scope lpos pos
      simp only [Bool.and_eq_true] at h
      obtain ⟨⟨⟨⟨h1, h2⟩, h3⟩, h4⟩, h5⟩ := h
      split at h1
      · rename_i y hy
        obtain ⟨e1, e2, e3, e4⟩ := gl_of hs h1
        subst e1
        obtain ⟨⟨c, P, f1, f2, f3, f4⟩, ln⟩ := G.lam h2
        obtain ⟨ga, a, Ng, pg, bg, sg, L⟩ := ln f x hy
        obtain ⟨dV, kV, doc, pm, cdv, ct, oc, an, od, osl, l1, l2, l3, l4⟩ := L.ex
        have ev : evE (Q.ctx n) (.lam f b) = fun ρ => if (decide (2 ≤ n) && noOwnIn b ρ) = true then lamFin (Q.lam f) ρ (evE (Q.ctx (n - 2)) b ρ) else .bad := by
          funext ρ; rw [evE, ctx_low]; rfl
        match n, G, hb, ev with
        | 0, G, hb, ev => exact ⟨fun pins s σ H Qv I ⟨ρ, k, w, q⟩ => by rw [ev] at q; exact (show False from q).elim⟩
        | 1, G, hb, ev => exact ⟨fun pins s σ H Qv I ⟨ρ, k, w, q⟩ => by rw [ev] at q; exact (show False from q).elim⟩
        | k + 2, G, hb, ev =>
          have hps := noPar_of h4
          subst hps
          refine (pe_lamcallN (T := Tb) (k := k) (t := fun E => tE X.K Tb (fun c _ H => E (.ref (ca c)) none H) (fun i => occ i b) (evE (Q.ctx k) b)) e2 L.gm L.kp l1 l2 l3 L.S L.N0 L.vis (l4 X _ rfl rfl rfl rfl rfl) f1 f2 f3 f4 G.room (lamS_by (by rw [hs]; exact h3)) rfl (fun _ _ _ _ _ => rfl) (fun A outer s H E f' c' hr => ?_) e3 L.dbg L.cls (fun σ E E' H Q Q' hE hQ h => tE_imp (fun c _ H z => hE _ _ _ z) hQ h)).weaken fun σ H Qv q => ?_
          · have hx : (lamCxN X A outer s H E scope f' c').xe = fun e s' => wpAny (model X.prog X.w) (A.deeper (lamEnv X scope s.heap.objs.size f' c')) (leaving (lamEnv X scope s.heap.objs.size f' c') e) (fun _ s'' => L2N.CX X.prog X.w outer H s E e s'') (fun e' s'' => L2N.CX X.prog X.w outer H s E e' s'') s' := rfl
            have G' : Good { t with lamb := false } Q Tb ca k N (lamCxN X A outer s H E scope f' c') (fun c _ H => E (.ref (ca c)) none H) := {
              names := G.names
              nd := G.nd
              calm := rfl
              room := hr
              tk := (L2N.takes_of rfl rfl rfl hx).imp fun c d σ H' ⟨c', e1, e2, e3⟩ => by subst e1; subst e2; exact e3
              oks := fun m hm => (G.oks m (by omega)).ofT
              lam := fun z => by cases z }
            exact (hb { t with lamb := false } k (fun f y h => D f y h)).pe _ _ scope body G' rfl h5
          · refine i_lam (W := W) ?_
            rw [ev] at q
            obtain ⟨ρ, kk, w, q⟩ := q
            refine ⟨ρ, kk, w, ?_⟩
            have e6 : (decide (2 ≤ k + 2) && noOwnIn b ρ) = noOwnIn b ρ := by rw [decide_eq_true (by omega)]; rfl
            dsimp only at q
            rw [e6] at q
            exact q
      · cases h1
    · cases h) (fun _ _ => by unfold chkT; rfl) (fun _ _ => by unfold chkA; rfl)

/-! ### what is walked -/
theorem t_chkI {X : Cx} {W : XW} {sc : Scope} {k : ItK} {tg it : Expr} {m oc : Nat → Bool} (G : Good t Q Tb ca n N X W) (hs : X.env.scope = sc) (ha : Snd t Q Tb ca n N as) (h : chkI sc k (fun es => chkA t N as sc es) tg it = true) (hm : ∀ i, occ i as = true → m i = true) :
    PI X tg it (tI X.K Tb W m oc (peekI k as oc (evA (Q.ctx n) as))) ∧ noSet it = true := by
  unfold chkI at h
  rw [Bool.and_eq_true] at h
  refine ⟨?_, h.1⟩
  have h := h.2
  cases k with
  | seq =>
    have h5 : chkA t N as sc [it] = true := h
    obtain ⟨k1, _, k2, k3⟩ := ha.pa X W sc _ G hs h5
    cases as with
    | cons xa xr =>
      have h5' := h5
      unfold chkA at h5'
      simp only [Bool.and_eq_true] at h5'
      have xr0 : xr = .nil := by
        have := h5'.2
        cases xr <;> first | rfl | (unfold chkA at this; cases this)
      subst xr0
      obtain ⟨k4, k5, k6⟩ := k3 xa .nil it [] rfl rfl
      refine (i_seq _ k4 k5).weaken fun σ H R' ⟨ρ, k, w, q⟩ => ⟨ρ, k, w, pG_mono q (fun i z => hm i (by simp [occ, z])) fun _ _ _ _ _ _ z => z⟩
    | _ => unfold chkA at h5; cases h5
  | rng1 =>
    dsimp only at h
    split at h
    · simp only [Bool.and_eq_true, decide_eq_true_eq] at h
      obtain ⟨⟨h1, h2⟩, h3⟩ := h
      obtain ⟨_, e2, e3, e4⟩ := gl_of hs h2
      obtain ⟨k1, _, k2, _⟩ := ha.pa X W sc _ G hs h3
      rw [List.all_cons, Bool.and_eq_true] at k2
      exact i_rng1 e2 h1 (by rw [h1]; exact G.ok.bt _ (by decide)) k1 k2.1 hm
    · cases h
  | rng2 =>
    dsimp only at h
    split at h
    · simp only [Bool.and_eq_true, decide_eq_true_eq] at h
      obtain ⟨⟨h1, h2⟩, h3⟩ := h
      obtain ⟨_, e2, e3, e4⟩ := gl_of hs h2
      obtain ⟨k1, _, k2, _⟩ := ha.pa X W sc _ G hs h3
      rw [List.all_cons, List.all_cons, Bool.and_eq_true, Bool.and_eq_true] at k2
      exact i_rng2 e2 h1 (by rw [h1]; exact G.ok.bt _ (by decide)) k1 k2.1 k2.2.1 hm
    · cases h
  | enum =>
    dsimp only at h
    split at h
    · simp only [Bool.and_eq_true, decide_eq_true_eq] at h
      obtain ⟨⟨h1, h2⟩, h3⟩ := h
      obtain ⟨_, e2, e3, e4⟩ := gl_of hs h2
      obtain ⟨k1, _, k2, _⟩ := ha.pa X W sc _ G hs h3
      rw [List.all_cons, Bool.and_eq_true] at k2
      exact i_enum e2 h1 (by rw [h1]; exact G.ok.bt _ (by decide)) k1 k2.1 hm
    · cases h
  | zip =>
    dsimp only at h
    split at h
    · simp only [Bool.and_eq_true, decide_eq_true_eq] at h
      obtain ⟨⟨h1, h2⟩, h3⟩ := h
      obtain ⟨_, e2, e3, e4⟩ := gl_of hs h2
      obtain ⟨k1, _, k2, _⟩ := ha.pa X W sc _ G hs h3
      rw [List.all_cons, List.all_cons, Bool.and_eq_true, Bool.and_eq_true] at k2
      exact i_zip e2 h1 (by rw [h1]; exact G.ok.bt _ (by decide)) k1 k2.1 k2.2.1 hm
    · cases h
theorem lcB_of {sc scope : Scope} {x : Str} (h : lcB sc scope x = true) : Loc (relS scope sc) x ∧ ((scope.names.lookup x == some .cell) = true ∨ (relS scope sc).names.lookup x = some .local) := by
  unfold lcB at h
  split at h
  · exact ⟨.inl (by assumption), .inr (by assumption)⟩
  · exact ⟨.inr (by assumption), .inl h⟩
  · cases h
theorem lc_fun {tg : Tg} {k : ItK} : evE (Q.ctx n) (.lc tg k as c b) = fun ρ => (peekI k as (fun i => tg.slots.contains i || occ i c || occ i b) (evA (Q.ctx n) as) ρ).bind fun (xs, ρ1) =>
    if xs.length ≤ line then
      (noX (lcGo (bindT tg) (tstR (isZero c) (evE (Q.ctx n) c)) (evE (Q.ctx n) b) tg.slots xs (wipeR ρ1 tg.slots))).bind fun (ys, ρ2) => .ok (.list ys, backR ρ1 ρ2 tg.slots)
    else .bad := by funext ρ; rw [evE]
theorem t_lc {X : Cx} {W : XW} {sc : Scope} {e : Expr} {tg : Tg} {k : ItK} (G : Good t Q Tb ca n N X W) (hs : X.env.scope = sc) (ha : Snd t Q Tb ca n N as) (hc : Snd t Q Tb ca n N c) (hb : Snd t Q Tb ca n N b) (h : chkE t N (.lc tg k as c b) sc e = true) :
    PE X e (tF X.K Tb W (fun i => occ i (.lc tg k as c b)) (evE (Q.ctx n) (.lc tg k as c b))) := by
  unfold chkE at h
  split at h
  · simp only [Bool.and_eq_true] at h
    obtain ⟨⟨⟨⟨h1, h2⟩, h3⟩, h4⟩, h5⟩ := h
    rename_i f g it ifs scope pos
    obtain ⟨k1, k2⟩ := t_chkI (m := fun i => occ i as) (oc := fun i => tg.slots.contains i || occ i c || occ i b) G hs ha h1 fun _ z => z
    have esc : ∀ (s : Shared) (H : Hp) (C : Addr) (cl : List (Str × Addr)) (fp : List Addr), (X.blk s H scope (compEnvC scope cl C X.env) fp).env.scope = relS scope sc := fun s H C cl fp => by rw [← hs]; rfl
    rw [lc_fun]
    refine f_lc (mc := fun i => occ i c) (me := fun i => occ i b) G.calm G.nd k1 (blkOk_by (own := ownOf N tg) (by rw [G.names, hs]; exact h2)) ownOf_map (fun s H C cl fp => ?_) (fun s H C cl fp => ?_) (fun s H C cl fp => ?_) k2 (fun i z => by simp [occ, z]) (fun i z => by simp [z]) (fun i z => by simp [z]) (fun i z => by simp [z]) (fun i z => by
        simp only [Bool.or_eq_true] at z
        rcases z with (z | z) | z <;> simp only [occ, z, Bool.or_true, Bool.true_or])
    · exact (s_tg (X := X.blk s H scope (compEnvC scope cl C X.env) fp) (lc := lcB sc scope) (N := N) G.nd G.names G.calm (fun x hx => by
        obtain ⟨l1, l2⟩ := lcB_of hx
        rw [esc]
        exact ⟨l1, l2⟩) tg).1 g h3
    · have G' := G.blk s H scope (compEnvC scope cl C X.env) fp
      cases ifs with
      | nil =>
        have h4 : isZero c = true := h4
        rw [h4]
        exact ⟨fun pins s σ H Qv I ⟨ρ, k, w, h⟩ => pts_nil.run pins s σ H Qv I (pG_ok (a := true) h w)⟩
      | cons e1 r =>
        cases r with
        | nil =>
          have h4 : (!isZero c && chkT t N c (relS scope sc) e1) = true := h4
          simp only [Bool.and_eq_true, Bool.not_eq_true'] at h4
          rw [h4.1]
          have k3 := (hc.pt _ W0 _ _ G' (esc s H C cl fp) h4.2).1
          exact ⟨fun pins s' σ H' Qv I q => (pts_one k3).run pins s' σ H' Qv I q⟩
        | cons _ _ => cases h4
    · exact hb.pe _ W0 _ _ (G.blk s H scope (compEnvC scope cl C X.env) fp) (esc s H C cl fp) h5
  · cases h
theorem lc_list {tg : Tg} {k : ItK} : ∀ ρ d ρ1, evE (Q.ctx n) (.lc tg k as c b) ρ = .ok (d, ρ1) → ∃ xs, d = .list xs := by
  intro ρ d ρ1 h
  rw [lc_fun] at h
  refine lst_list (g := fun (xs, ρ1) => if xs.length ≤ line then
      (noX (lcGo (bindT tg) (tstR (isZero c) (evE (Q.ctx n) c)) (evE (Q.ctx n) b) tg.slots xs (wipeR ρ1 tg.slots))).bind fun (ys, ρ2) => .ok (.list ys, backR ρ1 ρ2 tg.slots)
    else .bad) (fun p d ρ2 q => ?_) ρ d ρ1 h
  obtain ⟨xs, ρ3⟩ := p
  dsimp only at q
  by_cases hl : xs.length ≤ line
  · rw [if_pos hl] at q
    cases z : noX (lcGo (bindT tg) (tstR (isZero c) (evE (Q.ctx n) c)) (evE (Q.ctx n) b) tg.slots xs (wipeR ρ3 tg.slots)) with
    | bad => rw [z] at q; cases q
    | exc c => rw [z] at q; cases q
    | ok r => rw [z] at q; obtain ⟨ys, ρ4⟩ := r; cases q; exact ⟨_, rfl⟩
  · rw [if_neg hl] at q; cases q
theorem snd_lc (tg : Tg) (k : ItK) (ha : Snd t Q Tb ca n N as) (hc : Snd t Q Tb ca n N c) (hb : Snd t Q Tb ca n N b) : Snd t Q Tb ca n N (.lc tg k as c b) :=
  snd_e (fun X W sc e G hs h => F2E (t_lc G hs ha hc hb h) lc_list) (fun _ _ => by unfold chkT; rfl) (fun _ _ => by unfold chkA; rfl)
/-- every expression -/
theorem snd (D : DefsOk t Q) (xa : Ex) : Snd t Q Tb ca n N xa := by
  induction xa generalizing t n with
  | var i => exact snd_var i
  | cst d => exact snd_cst d
  | glb k => exact snd_glb k
  | bin o a b ha hb => exact snd_bin o (ha D) (hb D)
  | cmp o a b ha hb => exact snd_cmp o (ha D) (hb D)
  | chain o p a b c ha hb hc => exact snd_chain o p (ha D) (hb D) (hc D)
  | isN neg a ha => exact snd_isN neg (ha D)
  | and a b ha hb => exact snd_and (ha D) (hb D)
  | or a b ha hb => exact snd_or (ha D) (hb D)
  | not a ha => exact snd_not (ha D)
  | tru a ha => exact snd_tru (ha D)
  | neg a ha => exact snd_neg (ha D)
  | ite c a b hc ha hb => exact snd_ite (hc D) (ha D) (hb D)
  | nil => exact snd_nil
  | cons a r ha hr => exact snd_cons (ha D) (hr D)
  | tup as ha => exact snd_tup (ha D)
  | lst as ha => exact snd_lst (ha D)
  | lrep as k ha => exact snd_lrep k (ha D)
  | ix a b ha hb => exact snd_ix (ha D) (hb D)
  | sl a lo hi ha hb hc => exact snd_sl (ha D) (hb D) (hc D)
  | call f as ha => exact snd_call D f (ha D)
  | callIo f i as ha => exact snd_callIo D f i (ha D)
  | bi b as ha => exact snd_bi b (ha D)
  | isi a ty ha => exact snd_isi ty (ha D)
  | lc tg k s c e hs hc he => exact snd_lc tg k (hs D) (hc D) (he D)
  | pop i => exact snd_pop i
  | dix ks vs k hv hk => exact snd_dix ks (hv D) (hk D)
  | dget i k hk => exact snd_dget i (hk D)
  | dgetN i k hk => exact snd_dgetN i (hk D)
  | dgetD i k d hk hd => exact snd_dgetD i (hk D) (hd D)
  | din i k hk => exact snd_din i (hk D)
  | mth mm a as ha hs => exact snd_mth mm (ha D) (hs D)
  | lc2 _ _ _ _ _ _ _ => exact snd_none (fun _ _ => by unfold chkE; rfl) (fun _ _ => by unfold chkT; rfl) (fun _ _ => by unfold chkA; rfl)
  | dict _ _ => exact snd_none (fun _ _ => by unfold chkE; rfl) (fun _ _ => by unfold chkT; rfl) (fun _ _ => by unfold chkA; rfl)
  | lam f b hb => exact snd_lam D f fun t n D' => hb D'
  | isB neg c a ha => exact snd_isB neg c (ha D)
  | rev a ha => exact snd_rev (ha D)
/-! ### values of one's own -/
theorem ownG_list {f : Rho → R (D × Rho)} (h : ∀ ρ d ρ1, f ρ = .ok (d, ρ1) → ∃ xs, d = .list xs) : (fun ρ => (f ρ).bind ownG) = f := by
  funext ρ
  cases q : f ρ with
  | bad => rfl
  | exc c => rfl
  | ok z =>
    obtain ⟨d, ρ1⟩ := z
    obtain ⟨xs, rfl⟩ := h ρ d ρ1 q
    rfl
theorem t_own (D : DefsOk t Q) {X : Cx} {W : XW} {sc : Scope} {e : Expr} {xa : Ex} (G : Good t Q Tb ca n N X W) (hs : X.env.scope = sc) (h : chkF t N xa sc e = true) :
    PE X e (tF X.K Tb W (fun i => occ i xa) fun ρ => (evE (Q.ctx n) xa ρ).bind ownG) := by
  cases xa with
  | lst as =>
    unfold chkF at h
    dsimp only at h
    split at h
    · have e : evE (Q.ctx n) (.lst as) = fun ρ => (evA (Q.ctx n) as ρ).bind fun (xs, ρ1) => if xs.length ≤ line then .ok (.list xs, ρ1) else .bad := by funext ρ; rw [evE]
      have e2 : (fun ρ => (evE (Q.ctx n) (.lst as) ρ).bind ownG) = evE (Q.ctx n) (.lst as) := ownG_list (by rw [e]; exact lst_list lst_g)
      rw [e2, e]
      exact f_lst ((snd D as).pa X W sc _ G hs h).1 (fun i z => by simp [occ, z])
    · cases h
  | bin o a b =>
    cases o with
    | add =>
      unfold chkF at h
      dsimp only at h
      split at h
      · rw [Bool.and_eq_true] at h
        have e : (fun ρ => (evE (Q.ctx n) (.bin .add a b) ρ).bind ownG) = fun ρ => ((evE (Q.ctx n) a ρ).bind fun (x, ρ1) => (evE (Q.ctx n) b ρ1).bind fun (y, ρ2) => (ofOpt (binD .add x y)).bind fun z => .ok (z, ρ2)).bind ownG := by funext ρ; rw [evE]
        rw [e]
        exact f_add ((snd D a).pe X W sc _ G hs h.1) ((snd D b).pe X W sc _ G hs h.2) (fun i z => by simp [occ, z]) (fun i z => by simp [occ, z])
      · cases h
    | _ => unfold chkF at h; dsimp only at h; cases h
  | lc tg k s c el =>
    unfold chkF at h
    dsimp only at h
    rw [ownG_list lc_list]
    exact t_lc G hs (snd D s) (snd D c) (snd D el) h
  | call f as =>
    unfold chkF at h
    dsimp only at h
    rw [Bool.and_eq_true] at h
    have h2 := h.2
    unfold chkE at h2
    split at h2
    · simp only [Bool.and_eq_true, Bool.not_eq_true'] at h2
      obtain ⟨⟨h1, _⟩, _⟩ := h2
      split at h1
      · rename_i y hy
        obtain ⟨F, hF, _, ho⟩ := D f y hy
        have k := t_call G hs (snd D as) hF h.2
        have ho : F.own = true := by rw [ho]; exact h.1
        unfold tR at k
        rw [if_pos ho] at k
        rw [ownG_list (ev_call_list hF ho)]
        exact k
      · cases h1
    · cases h2
  | dict ks vs =>
    unfold chkF at h
    dsimp only at h
    split at h
    · split at h
      · split at h
        · simp only [Bool.and_eq_true, decide_eq_true_eq] at h
          obtain ⟨rfl, h2⟩ := h
          have := isZero_of h2
          subst this
          have e : (fun ρ => (evE (Q.ctx n) (.dict [] .nil) ρ).bind ownG) = fun ρ => .ok (.dict [], ρ) := by funext ρ; rw [evE, evA]; rfl
          rw [e]
          exact f_dict0
        · cases h
      · simp only [Bool.and_eq_true, decide_eq_true_eq] at h
        obtain ⟨⟨⟨⟨h1, h2⟩, h3⟩, h4⟩, h5⟩ := h
        have e : (fun ρ => (evE (Q.ctx n) (.dict ks vs) ρ).bind ownG) = fun ρ => (evA (Q.ctx n) vs ρ).bind fun (xs, ρ1) => (ofOpt (mkDict ks xs)).bind fun kvs => .ok (.dict kvs, ρ1) := by
          funext ρ; rw [evE, R.bind_assoc]
          congr 1
          funext ⟨xs, ρ1⟩
          dsimp only
          cases mkDict ks xs <;> rfl
        rw [e]
        exact f_disp G hs (snd D vs) h1 h2 h3 h4 h5 (fun i z => by simp [occ, z])
    · cases h
  | _ => unfold chkF at h; dsimp only at h; cases h
end
end Fo

set_option Elab.async false
set_option linter.all false
set_option maxRecDepth 100000
set_option maxHeartbeats 4000000
/-! SemC1: what a statement may change; what is wanted behind it. -/
namespace Fo
open PySem L2 LamX PyProof.Rows

structure TrS (T : Tbs) (io : Bool) (σ : L2.St) (ρ : Rho) (k H : Hp) (σ1 : L2.St) (ρ1 : Rho) (k1 H1 : Hp) : Prop where
  kk : Same k k1
  new : ∀ a, k1 a ≠ none → k a ≠ none ∨ H a = none ∨ ∃ i, Own σ ρ i a
  frm : ∀ a o, H a = some o → (∀ ps, o ≠ .tbl ps) → H1 a = some o ∨ ∃ i, Own σ ρ i a
  dom : ∀ a, H a ≠ none → H1 a ≠ none
  own : ∀ (i : Nat) (a : Addr), Own σ1 ρ1 i a → Own σ ρ i a ∨ H a = none
  io0 : io = true → σ1[0]? = σ[0]?
def TrXS (T : Tbs) (σ : L2.St) (ρ : Rho) (H H1 : Hp) : Prop := (∀ a o, H a = some o → (∀ ps, o ≠ .tbl ps) → H1 a = some o ∨ ∃ i, Own σ ρ i a) ∧ (∀ a, H a ≠ none → H1 a ≠ none) ∧ Tabs T H1
section
variable {K : PySem.W.Frag} {T : Tbs} {io own : Bool} {σ σ1 σ2 : L2.St} {ρ ρ1 ρ2 : Rho} {k k1 k2 H H1 H2 : Hp}
theorem none_of {a : Addr} (d : ∀ a, H a ≠ none → H1 a ≠ none) (h : H1 a = none) : H a = none := by
  cases e : H a with
  | none => rfl
  | some o => exact absurd h (d a (by rw [e]; exact fun z => by cases z))
theorem TrS.refl : TrS T io σ ρ k H σ ρ k H := ⟨fun _ _ h => h, fun _ h => .inl h, fun _ _ h _ => .inl h, fun _ h => h, fun _ _ h => .inl h, fun _ => rfl⟩
theorem TrS.trans (t : TrS T io σ ρ k H σ1 ρ1 k1 H1) (u : TrS T io σ1 ρ1 k1 H1 σ2 ρ2 k2 H2) : TrS T io σ ρ k H σ2 ρ2 k2 H2 where
  kk := t.kk.trans u.kk
  new := fun a q => by
    rcases u.new a q with q | q | ⟨i, o⟩
    · exact t.new a q
    · exact .inr (.inl (none_of t.dom q))
    · rcases t.own i a o with z | z
      · exact .inr (.inr ⟨i, z⟩)
      · exact .inr (.inl z)
  frm := fun a o q n => by
    rcases t.frm a o q n with q1 | q1
    · rcases u.frm a o q1 n with q2 | ⟨i, o2⟩
      · exact .inl q2
      · rcases t.own i a o2 with z | z
        · exact .inr ⟨i, z⟩
        · rw [z] at q; cases q
    · exact .inr q1
  dom := fun a q => u.dom a (t.dom a q)
  own := fun i a o => by
    rcases u.own i a o with z | z
    · exact t.own i a z
    · exact .inr (none_of t.dom z)
  io0 := fun h => (u.io0 h).trans (t.io0 h)
theorem TrXS.after (t : TrS T io σ ρ k H σ1 ρ1 k1 H1) (u : TrXS T σ1 ρ1 H1 H2) : TrXS T σ ρ H H2 :=
  ⟨fun a o q n => by
    rcases t.frm a o q n with q1 | q1
    · rcases u.1 a o q1 n with q2 | ⟨i, o2⟩
      · exact .inl q2
      · rcases t.own i a o2 with z | z
        · exact .inr ⟨i, z⟩
        · rw [z] at q; cases q
    · exact .inr q1, fun a q => u.2.1 a (t.dom a q), u.2.2⟩
theorem Tr.toS {ms : Nat → Bool} (t : Tr T ms σ ρ k H ρ1 k1 H1) : TrS T io σ ρ k H σ ρ1 k1 H1 :=
  ⟨t.kk, fun a q => (t.new a q).imp id (Or.imp id fun ⟨i, _, o⟩ => ⟨i, o⟩), fun a o q n => (t.frm a o q n).imp id fun ⟨i, _, o⟩ => ⟨i, o⟩, t.dom, fun i a o => .inl (t.own i a o), fun _ => rfl⟩
theorem TrX.toS {ms : Nat → Bool} (t : TrX T ms σ ρ H H1) : TrXS T σ ρ H H1 := ⟨fun a o q n => (t.1 a o q n).imp id fun ⟨i, _, o⟩ => ⟨i, o⟩, t.2⟩
def RetOk (K : PySem.W.Frag) (own io : Bool) (σ : L2.St) (ρ : Rho) (H : Hp) (v : V) (d : D) (k1 H1 : Hp) : Prop :=
  if own = true then ∃ p, v = .ref p ∧ (H p = none ∨ ∃ i, Own σ ρ i p ∧ (io = true → i ≠ 0)) ∧ k1 p = none ∧ OwnRep K k1 H1 p d else Dp K k1 v d
theorem RetOk.back {v : V} {d : D} (t : TrS T io σ ρ k H σ1 ρ1 k1 H1) (r : RetOk K own io σ1 ρ1 H1 v d k2 H2) : RetOk K own io σ ρ H v d k2 H2 := by
  unfold RetOk at r ⊢
  by_cases h : own = true
  · rw [if_pos h] at r ⊢
    obtain ⟨p, h1, h2, h3⟩ := r
    refine ⟨p, h1, ?_, h3⟩
    rcases h2 with z | ⟨i, o, n⟩
    · exact .inl (none_of t.dom z)
    · rcases t.own i p o with z | z
      · exact .inr ⟨i, z, n⟩
      · exact .inl z
  · rw [if_neg h] at r ⊢; exact r
def pS (K : PySem.W.Frag) (T : Tbs) (W : XW) (io own : Bool) (σ : L2.St) (ρ : Rho) (k H : Hp) (r : R (Fl × Rho)) (D : Ends) : Prop :=
  match r with
  | .ok (.next, ρ1) => ∀ σ1 k1 H1, TrS T io σ ρ k H σ1 ρ1 k1 H1 → WF K T σ1 ρ1 k1 H1 → D.nx σ1 H1
  | .ok (.ret d, ρ1) => ∀ v σ1 k1 H1, TrS T io σ ρ k H σ1 ρ1 k1 H1 → WF K T σ1 ρ1 k1 H1 → RetOk K own io σ ρ H v d k1 H1 → D.rt v H1
  | .exc c => ∀ σ1 H1, TrXS T σ ρ H H1 → W c σ1 H1
  | .bad => False
def tS (K : PySem.W.Frag) (T : Tbs) (W : XW) (io own : Bool) (f : Rho → R (Fl × Rho)) : TS := fun D σ H => ∃ ρ k, WF K T σ ρ k H ∧ pS K T W io own σ ρ k H (f ρ) D
variable {W : XW} {r : R (Fl × Rho)} {D : Ends}
theorem pS_from (h : pS K T W io own σ ρ k H r D) (t : TrS T io σ ρ k H σ1 ρ1 k1 H1) : pS K T W io own σ1 ρ1 k1 H1 r D := by
  cases r with
  | bad => exact h
  | exc c => exact fun σ2 H2 u => h σ2 H2 (TrXS.after t u)
  | ok p =>
    obtain ⟨f, ρ2⟩ := p
    cases f with
    | next => exact fun σ2 k2 H2 u w => h σ2 k2 H2 (t.trans u) w
    | ret d => exact fun v σ2 k2 H2 u w q => h v σ2 k2 H2 (t.trans u) w (q.back t)
theorem pS_e {α : Type} {ms : Nat → Bool} {r : R (α × Rho)} {g : α × Rho → R (Fl × Rho)} (h : pS K T W io own σ ρ k H (r.bind g) D) : pG K T W ms σ ρ k H r fun a ρ1 k1 H1 => pS K T W io own σ ρ1 k1 H1 (g (a, ρ1)) D := by
  cases r with
  | bad => exact h
  | exc c => exact fun H1 u => h σ H1 u.toS
  | ok p =>
    obtain ⟨a, ρ1⟩ := p
    exact fun k1 H1 t w => pS_from (show pS K T W io own σ ρ k H (g (a, ρ1)) D from h) t.toS
/-- the same, seen from where it began -/
theorem pS_e0 {α : Type} {ms : Nat → Bool} {r : R (α × Rho)} {g : α × Rho → R (Fl × Rho)} (h : pS K T W io own σ ρ k H (r.bind g) D) : pG K T W ms σ ρ k H r fun a ρ1 _ _ => pS K T W io own σ ρ k H (g (a, ρ1)) D := by
  cases r with
  | bad => exact h
  | exc c => exact fun H1 u => h σ H1 u.toS
  | ok p =>
    obtain ⟨a, ρ1⟩ := p
    exact fun k1 H1 t w => h
/-- one statement, then what follows -/
def thenS (r : R (Fl × Rho)) (g : Rho → R (Fl × Rho)) : R (Fl × Rho) := r.bind fun (f, ρ1) => match f with
  | .next => g ρ1
  | .ret d => .ok (.ret d, ρ1)
theorem pS_seq {g : Rho → R (Fl × Rho)} (h : pS K T W io own σ ρ k H (thenS r g) D) : pS K T W io own σ ρ k H r { D with nx := tS K T W io own g D } := by
  cases r with
  | bad => exact h
  | exc c => exact h
  | ok p =>
    obtain ⟨f, ρ1⟩ := p
    cases f with
    | next => exact fun σ1 k1 H1 t w => ⟨ρ1, k1, w, pS_from (show pS K T W io own σ ρ k H (g ρ1) D from h) t⟩
    | ret d => exact h
theorem pS_seqK {g : Rho → R (Fl × Rho)} (h : pS K T W io own σ ρ k H (thenS r g) D) : pS K T W io own σ ρ k H r { D with nx := fun σ1 H1 => ∃ ρ1 k1, WF K T σ1 ρ1 k1 H1 ∧ Same k k1 ∧ pS K T W io own σ1 ρ1 k1 H1 (g ρ1) D } := by
  cases r with
  | bad => exact h
  | exc c => exact h
  | ok p =>
    obtain ⟨f, ρ1⟩ := p
    cases f with
    | next => exact fun σ1 k1 H1 t w => ⟨ρ1, k1, w, t.kk, pS_from (show pS K T W io own σ ρ k H (g ρ1) D from h) t⟩
    | ret d => exact h
theorem pS_mono {D' : Ends} (h : pS K T W io own σ ρ k H r D) (h1 : ∀ σ1 ρ1 k1 H1, TrS T io σ ρ k H σ1 ρ1 k1 H1 → WF K T σ1 ρ1 k1 H1 → D.nx σ1 H1 → D'.nx σ1 H1) (h2 : ∀ v H1, D.rt v H1 → D'.rt v H1) : pS K T W io own σ ρ k H r D' := by
  cases r with
  | bad => exact h
  | exc c => exact h
  | ok p =>
    obtain ⟨f, ρ1⟩ := p
    cases f with
    | next => exact fun σ1 k1 H1 t w => h1 _ _ _ _ t w (h σ1 k1 H1 t w)
    | ret d => exact fun v σ1 k1 H1 t w q => h2 _ _ (h v σ1 k1 H1 t w q)
theorem pS_if {c : Prop} [Decidable c] (h : pS K T W io own σ ρ k H (if c then r else .bad) D) : c ∧ pS K T W io own σ ρ k H r D := by
  by_cases hc : c
  · rw [if_pos hc] at h; exact ⟨hc, h⟩
  · rw [if_neg hc] at h; exact h.elim
/-- a step that only looks -/
theorem pS_get {α : Type} {r : R α} {g : α → R (Fl × Rho)} (h : pS K T W io own σ ρ k H (r.bind g) D) (hx : ∀ c, r ≠ .exc c) : ∃ x, r = .ok x ∧ pS K T W io own σ ρ k H (g x) D := by
  cases r with
  | bad => exact h.elim
  | exc c => exact absurd rfl (hx c)
  | ok x => exact ⟨x, rfl, h⟩
theorem pS_next (h : pS K T W io own σ ρ k H (.ok (.next, ρ1)) D) (t : TrS T io σ ρ k H σ1 ρ1 k1 H1) (w : WF K T σ1 ρ1 k1 H1) : D.nx σ1 H1 := h σ1 k1 H1 t w
theorem bindT_noexc (c : Nat) : ∀ {t : Tg} {d : PyData} {ρ : Rho}, bindT t d ρ ≠ .exc c := by
  intro t
  induction t with
  | name i =>
    intro d ρ h
    unfold bindT at h
    split at h <;> cases h
  | nil =>
    intro d ρ h
    cases d with
    | tuple xs => cases xs <;> (unfold bindT at h; cases h)
    | _ => unfold bindT at h; cases h
  | cons t r ih1 ih2 =>
    intro d ρ h
    cases d with
    | tuple xs =>
      cases xs with
      | nil => unfold bindT at h; cases h
      | cons x xs =>
        unfold bindT at h
        cases e : bindT t x ρ with
        | bad => rw [e] at h; cases h
        | exc c2 =>
          rw [e] at h
          have e3 : c2 = c := R.exc.inj h
          rw [e3] at e
          exact ih1 e
        | ok ρ1 => rw [e] at h; exact ih2 h
    | _ => unfold bindT at h; cases h
theorem ofOpt_noexc {α : Type} (c : Nat) {o : Option α} : ofOpt o ≠ .exc c := by cases o <;> exact fun z => by cases z
theorem Ag.toS {is : List Nat} (a : Ag is σ ρ σ1 ρ1) (h0 : io = true → 0 ∉ is) : TrS T io σ ρ k H σ1 ρ1 k H :=
  ⟨fun _ _ h => h, fun _ h => .inl h, fun _ _ h _ => .inl h, fun _ h => h, fun i x o => .inl (a.own i x o), fun h => (a.els 0 (h0 h)).1⟩
/-- a new thing of one's own goes to a slot -/
theorem wf_setOwn {i : Nat} {p : Addr} {d : PyData} (w : WF K T σ ρ k H) (hi : i < ρ.length) (hk : k p = none) (ho : OwnRep K k H p d) (hn : ∀ j, ¬ Own σ ρ j p) : WF K T (σ.set i (some (.ref p))) (ρ.set i (.own d)) k H where
  sub := w.sub
  ntb := w.ntb
  tab := w.tab
  len := by rw [List.length_set, List.length_set]; exact w.len
  val := fun j x e => by
    by_cases z : i = j
    · subst z; rw [List.getElem?_set_self hi] at e; cases e
    · rw [List.getElem?_set_ne z] at e
      obtain ⟨u, g1, g2⟩ := w.val j x e
      exact ⟨u, by rw [List.getElem?_set_ne z]; exact g1, g2⟩
  own := fun j x e => by
    by_cases z : i = j
    · subst z
      rw [List.getElem?_set_self hi] at e; cases e
      exact ⟨p, List.getElem?_set_self (by rw [← w.len]; exact hi), hk, ho⟩
    · rw [List.getElem?_set_ne z] at e
      obtain ⟨a, g1, g2⟩ := w.own j x e
      exact ⟨a, by rw [List.getElem?_set_ne z]; exact g1, g2⟩
  dis := fun j j' a o1 o2 => by
    have lift : ∀ {j}, Own (σ.set i (some (.ref p))) (ρ.set i (.own d)) j a → (i = j ∧ a = p) ∨ Own σ ρ j a := fun {j} o => by
      obtain ⟨⟨x, e1⟩, e2⟩ := o
      by_cases z : i = j
      · subst z
        rw [List.getElem?_set_self (by rw [← w.len]; exact hi)] at e2
        cases e2
        exact .inl ⟨rfl, rfl⟩
      · rw [List.getElem?_set_ne z] at e1 e2
        exact .inr ⟨⟨x, e1⟩, e2⟩
    rcases lift o1 with ⟨z1, z2⟩ | z1
    · rcases lift o2 with ⟨y1, _⟩ | y1
      · rw [← z1, ← y1]
      · rw [z2] at y1; exact absurd y1 (hn j')
    · rcases lift o2 with ⟨_, y2⟩ | y1
      · rw [y2] at z1; exact absurd z1 (hn j)
      · exact w.dis j j' a z1 y1
theorem tr_setOwn {i : Nat} {p : Addr} {d : PyData} (hi : i < σ.length) (hn : ∀ j, ¬ Own σ ρ j p) (hp : H p = none) (h0 : io = true → i ≠ 0) (hs : TrS T io σ ρ k H σ ρ1 k1 H1) : TrS T io σ ρ k H (σ.set i (some (.ref p))) (ρ1.set i (.own d)) k1 H1 where
  kk := hs.kk
  new := hs.new
  frm := hs.frm
  dom := hs.dom
  own := fun j a o => by
    obtain ⟨⟨x, e1⟩, e2⟩ := o
    by_cases z : i = j
    · subst z
      rw [List.getElem?_set_self hi] at e2
      cases e2
      exact .inr hp
    · rw [List.getElem?_set_ne z] at e1 e2
      exact hs.own j a ⟨⟨x, e1⟩, e2⟩
  io0 := fun h => List.getElem?_set_ne (h0 h)
end
end Fo

set_option Elab.async false
set_option linter.all false
set_option maxRecDepth 100000
set_option maxHeartbeats 4000000
/-! SemC2: which statements of the text a statement of ours stands for. -/
namespace Fo
open PySem L2 LamX PyProof.Rows

def notComp : Expr → Bool
  | .ListComp .. | .SetComp .. | .DictComp .. => false
  | _ => true
def notSD : Expr → Bool
  | .SetComp .. | .DictComp .. => false
  | _ => true
def isFn (sc : Scope) : Bool := match sc.kind with
  | .function => true
  | _ => false
def swB (sc : Scope) (x : Str) (px : Pos) : Expr → Bool
  | .ListComp _ _ s pos => (sc.names.lookup x == some .local) && px.line == pos.line && !(s.names.any fun (n, k) => n == x && (k == .local || k == .cell))
  | _ => false
def swC (sc : Scope) (ts vs : List Expr) : Option (Option (List Str)) :=
  if (!(ts.length == 2 || ts.length == 3) || vs.length != ts.length) = true then some none
  else if (vs.any fun | .Starred .. => true | _ => false) = true then some none
  else
    let line := (ts.head?.map (·.pos.line)).getD 0
    let names := ts.filterMap fun
      | .Name id pos => if sc.names.lookup id == some .local && pos.line == line then some id else none
      | _ => none
    if (names.length != ts.length || names.eraseDups.length != names.length) = true then some none
    else if vs.all (foldedForSure 8) = true then some none
    else if vs.all (constantsAlone 8) = true then none
    else some (some names)
section
variable {env : Env} {sc : Scope}
theorem isFn_of (h : isFn sc = true) : sc.kind = .function := by
  unfold isFn at h
  split at h
  · assumption
  · cases h
theorem bk_of (hs : env.scope = sc) (h : isFn sc = true) : env.blockKind = .function := by
  unfold Env.blockKind
  rw [hs, isFn_of h]
  rfl
theorem sw_comp {e : Expr} {tg : Option Expr} {line : Nat} (h : notComp e = true) : swapsWith e tg line env = pure false := by
  cases e <;> first | rfl | cases h
theorem sw_tup {e : Expr} {ts : List Expr} {k : Nat} {p : Pos} {line : Nat} (h : notSD e = true) : swapsWith e (some (.Tuple ts k p)) line env = pure false := by
  cases e <;> first | rfl | cases h
theorem sw_name {e : Expr} {x : Str} {px : Pos} {line : Nat} (hs : env.scope = sc) (h : isFn sc = true) (he : notSD e = true) : swapsWith e (some (.Name x px)) line env = pure (swB sc x px e) := by
  cases e with
  | ListComp a b s pos =>
    show (pure (env.blockKind == .function && env.kindOf x == some .local && px.line == pos.line && !(s.names.any fun (n, k) => n == x && (k == .local || k == .cell))) : Sem Bool) = _
    rw [bk_of hs h]
    show (pure (true && (env.scope.names.lookup x == some .local) && px.line == pos.line && !(s.names.any fun (n, k) => n == x && (k == .local || k == .cell))) : Sem Bool) = _
    rw [hs, Bool.true_and]
    rfl
  | _ => first | rfl | cases he
theorem st_none {e : Expr} {ts : List Expr} {k : Nat} {p : Pos} (h : ∀ vs j q, e ≠ .Tuple vs j q) : swappedStores [.Tuple ts k p] e env = pure none := by
  cases e with
  | Tuple vs j q => exact absurd rfl (h vs j q)
  | _ => rfl
theorem st_name {e : Expr} {x : Str} {p : Pos} : swappedStores [.Name x p] e env = pure none := by
  cases e <;> rfl
theorem st_of {ts vs : List Expr} {k k2 : Nat} {p p2 : Pos} {r : Option (List Str)} (hs : env.scope = sc) (hf : isFn sc = true) (h : swC sc ts vs = some r) : swappedStores [.Tuple ts k p] (.Tuple vs k2 p2) env = pure r := by
  unfold swC at h
  unfold swappedStores
  have hb := bk_of hs hf
  show (if (!(ts.length == 2 || ts.length == 3) || vs.length != ts.length || env.blockKind != .function) = true then (pure none : Sem (Option (List Str))) else _) = _
  rw [hb]
  have e0 : (NameKind.local != NameKind.local) = false := rfl
  have e1 : (!(ts.length == 2 || ts.length == 3) || vs.length != ts.length || (ScopeKind.function != ScopeKind.function)) = (!(ts.length == 2 || ts.length == 3) || vs.length != ts.length) := Bool.or_false _
  rw [e1]
  by_cases h1 : (!(ts.length == 2 || ts.length == 3) || vs.length != ts.length) = true
  · rw [if_pos h1] at h ⊢
    cases h; rfl
  · rw [if_neg h1] at h ⊢
    by_cases h2 : (vs.any fun | .Starred .. => true | _ => false) = true
    · rw [if_pos h2] at h
      cases h
      show (if (vs.any fun | .Starred .. => true | _ => false) = true then (pure none : Sem (Option (List Str))) else _) = _
      rw [if_pos h2]
    · rw [if_neg h2] at h
      show (if (vs.any fun | .Starred .. => true | _ => false) = true then (pure none : Sem (Option (List Str))) else _) = _
      rw [if_neg h2]
      have en : env.kindOf = fun id => sc.names.lookup id := by funext id; rw [← hs]; rfl
      rw [en]
      dsimp only at h ⊢
      generalize (ts.filterMap fun
        | .Name id pos => if sc.names.lookup id == some .local && pos.line == (ts.head?.map (·.pos.line)).getD 0 then some id else none
        | _ => none) = names at h ⊢
      by_cases h3 : (names.length != ts.length || names.eraseDups.length != names.length) = true
      · rw [if_pos h3] at h
        cases h
        show (if (names.length != ts.length || names.eraseDups.length != names.length) = true then (pure none : Sem (Option (List Str))) else _) = _
        rw [if_pos h3]
      · rw [if_neg h3] at h
        show (if (names.length != ts.length || names.eraseDups.length != names.length) = true then (pure none : Sem (Option (List Str))) else _) = _
        rw [if_neg h3]
        by_cases h4 : vs.all (foldedForSure 8) = true
        · rw [if_pos h4] at h
          cases h
          show (if vs.all (foldedForSure 8) = true then (pure none : Sem (Option (List Str))) else _) = _
          rw [if_pos h4]
        · rw [if_neg h4] at h
          show (if vs.all (foldedForSure 8) = true then (pure none : Sem (Option (List Str))) else _) = _
          rw [if_neg h4]
          by_cases h5 : vs.all (constantsAlone 8) = true
          · rw [if_pos h5] at h; cases h
          · rw [if_neg h5] at h
            cases h
            show (if vs.all (constantsAlone 8) = true then (_ : Sem (Option (List Str))) else _) = _
            rw [if_neg h5]
end
def locB (sc : Scope) (x : Str) : Bool := match sc.names.lookup x with
  | some .local => true
  | some .cell => true
  | _ => false
def isLoc (sc : Scope) (x : Str) : Bool := match sc.names.lookup x with
  | some .local => true
  | _ => false
def chkFr (t : Tx) (N : List Str) : Ex → Scope → Expr → Bool
  | .lst as, sc, e => chkF t N (.lst as) sc e
  | .lc tg k s c el, sc, e => chkF t N (.lc tg k s c el) sc e
  | .call f as, sc, e => chkF t N (.call f as) sc e
  | _, _, _ => false
def noSlot0 (io : Bool) (is : List Nat) : Bool := !io || !is.contains 0
def parOk (sc : Scope) (N : List Str) (is : List Nat) (ts vs : List Expr) : Bool := match is, ts, vs with
  | [i, j], [.Name x _, .Name y _], [_, _] => decide (N[i]? = some x) && decide (N[j]? = some y) && decide (i ≠ j) && isLoc sc x && isLoc sc y && decide (swC sc ts vs = some (some [x, y]))
  | [i, j, l], [.Name x _, .Name y _, .Name z _], [_, _, _] => decide (N[i]? = some x) && decide (N[j]? = some y) && decide (N[l]? = some z) && decide (i ≠ j) && decide (i ≠ l) && decide (j ≠ l) &&
      isLoc sc x && isLoc sc y && isLoc sc z && decide (swC sc ts vs = some (some [x, y, z]))
  | _, _, _ => false
def tupC (sc : Scope) (ts : List Expr) : Expr → Bool
  | .Tuple vs _ _ => decide (swC sc ts vs = some none)
  | _ => true
mutual
def chkS (t : Tx) (N : List Str) (io own : Bool) (sc : Scope) : Sx → Stmt → Bool
  | .set g e, st => (match st with
    | .Assign [.Name x px] v _ => (match g with | .name i => decide (N[i]? = some x) && locB sc x && isFn sc && notSD v && noSlot0 io [i] && chkE t N e sc v | _ => false)
    | .Assign [.Tuple ts k p] v _ => chkG N (locB sc) g (.Tuple ts k p) && isFn sc && notSD v && tupC sc ts v && noSlot0 io g.slots && chkE t N e sc v
    | _ => false)
  | .par is as, st => (match st with
    | .Assign [.Tuple ts _ _] (.Tuple vs _ _) _ => isFn sc && parOk sc N is ts vs && noSlot0 io is && chkA t N as sc vs
    | _ => false)
  | .own i e, st => (match st with
    | .Assign [.Name x px] v _ => decide (N[i]? = some x) && locB sc x && isFn sc && notSD v && noSlot0 io [i] && chkF t N e sc v
    | _ => false)
  | .app i e, st => (match st with
    | .Expr (.Call (.Attribute f mm ap) [a] [] cp) _ => slN N sc i f && decide (mm = ("append" : Str)) && sameLn ap cp && noStar a && chkE t N e sc a
    | _ => false)
  | .put i k e, st => (match st with
    | .Assign [.Subscript f b _] v _ => slN N sc i f && plainIx b && notSD v && notComp v && chkE t N k sc b && chkE t N e sc v
    | _ => false)
  | .dput i k e, st => (match st with
    | .Assign [.Subscript f b _] v _ => slN N sc i f && plainIx b && notComp v && chkE t N k sc b && chkE t N e sc v
    | _ => false)
  | .ex e, st => (match st with
    | .Expr v _ => notComp v && chkE t N e sc v
    | _ => false)
  | .ret e, st => (match st with
    | .Return (some v) _ => if own = true then chkFr t N e sc v else chkE t N e sc v
    | _ => false)
  | .retO i, st => (match st with
    | .Return (some v) _ => own && noSlot0 io [i] && slN N sc i v
    | _ => false)
  | .retN, st => (match st with
    | .Return none _ => !own
    | _ => false)
  | .cond c a b, st => (match st with
    | .If f g h _ => chkT t N c sc f && chkSs t N io own sc a g && chkSs t N io own sc b h
    | _ => false)
  | .loop g k s b, st => (match st with
    | .For tg iter body [] _ => chkG N (locB sc) g tg && chkI sc k (fun es => chkA t N s sc es) tg iter && noSlot0 io g.slots && chkSs t N io own sc b body
    | _ => false)
  | .while c b, st => (match st with
    | .While f body [] _ => chkT t N c sc f && chkSs t N io own sc b body
    | _ => false)
  | .raise c, st => (match st with
    | .Raise (some (.Call (.Name x _) [.Constant (.str _) _ _] [] _)) none _ => (match t.xn c with | some y => ckG sc x y | none => false)
    | _ => false)
  | _, _ => false
def chkSs (t : Tx) (N : List Str) (io own : Bool) (sc : Scope) : Sx → List Stmt → Bool
  | .skip, sts => (match sts with | [] => true | _ => false)
  | .seq s r, sts => (match sts with | st :: rest => chkS t N io own sc s st && chkSs t N io own sc r rest | [] => false)
  | _, _ => false
end
end Fo

set_option Elab.async false
set_option linter.all false
set_option maxRecDepth 100000
set_option maxHeartbeats 4000000
/-! SemC3: a checked statement answers as ours does. -/
namespace Fo
open PySem L2 LamX PyProof.Rows

structure GoodS (t : Tx) (Q : Prog) (Tb : Tbs) (ca : Nat → Addr) (n : Nat) (N : List Str) (X : Cx) (W : XW) : Prop extends Good t Q Tb ca n N X W where
  po : PassesOwn (model X.prog X.w) X.A X.env X.xe
  fnT : ∀ x, X.fn x = true
section
variable {t : Tx} {Q : Prog} {Tb : Tbs} {ca : Nat → Addr} {n : Nat} {N : List Str} {X : Cx} {W : XW} {sc : Scope} {io own : Bool}
theorem loc_of {x : Str} (hs : X.env.scope = sc) (h : locB sc x = true) : Loc X.env.scope x := by
  unfold locB at h
  rw [hs]
  split at h
  · exact .inl (by assumption)
  · exact .inr (by assumption)
  · cases h
theorem isLoc_of {x : Str} (hs : X.env.scope = sc) (h : isLoc sc x = true) : X.env.scope.names.lookup x = some .local := by
  unfold isLoc at h
  rw [hs]
  split at h
  · assumption
  · cases h
theorem slot0_of {is : List Nat} (h : noSlot0 io is = true) : io = true → 0 ∉ is := by
  intro hi hm
  unfold noSlot0 at h
  rw [hi] at h
  simp [hm] at h
theorem pg_loc (G : GoodS t Q Tb ca n N X W) (hs : X.env.scope = sc) {i : Nat} {x : Str} {p : Pos} (hN : N[i]? = some x) (hl : locB sc x = true) : PG X (.Name x p) (gName i) :=
  pg_name G.nd (by rw [G.names]; exact hN) (loc_of hs hl) (.inl (G.fnT x))
/-- x = v: v's value as its reading says, whether or not a comprehension's end is in the store -/
theorem asg_name (G : GoodS t Q Tb ca n N X W) (hs : X.env.scope = sc) (hf : isFn sc = true) {i : Nat} {x : Str} {px pos : Pos} {v : Expr} {te : TE} (hN : N[i]? = some x) (hl : locB sc x = true) (hv : notSD v = true) (hsw : swB sc x px v = false) (he : PE X v te) :
    PS X (.Assign [.Name x px] v pos) (tAsg te (gName i)) :=
  ps_asg he (pg_loc G hs hN hl) (by show swapsWith v (some (.Name x px)) pos.line X.env = _; rw [sw_name hs hf hv, hsw]) st_name rfl
/-- the comprehension's end in the store -/
theorem asg_lc (D : DefsOk t Q) (G : GoodS t Q Tb ca n N X W) (hs : X.env.scope = sc) (hf : isFn sc = true) {i : Nat} {x : Str} {px pos : Pos} {v : Expr} {tg : Tg} {k : ItK} {as c b : Ex} (hN : N[i]? = some x) (hsw : swB sc x px v = true)
    (h : chkE t N (.lc tg k as c b) sc v = true) : PS X (.Assign [.Name x px] v pos) (tAsg (tF X.K Tb W (fun i => occ i (.lc tg k as c b)) (evE (Q.ctx n) (.lc tg k as c b))) (gName i)) := by
  have h0 := h
  unfold chkE at h
  split at h
  · simp only [Bool.and_eq_true] at h
    obtain ⟨⟨⟨⟨h1, h2⟩, h3⟩, h4⟩, h5⟩ := h
    rename_i f g it ifs scope pos'
    obtain ⟨k1, k2⟩ := t_chkI (W := W) (Q := Q) (n := n) (Tb := Tb) (m := fun i => occ i as) (oc := fun i => tg.slots.contains i || occ i c || occ i b) G.toGood hs (snd D as) h1 fun _ z => z
    have esc : ∀ (s : Shared) (H : Hp) (C : Addr) (cl : List (Str × Addr)) (fp : List Addr), (X.blk s H scope (compEnvC scope cl C X.env) fp).env.scope = relS scope sc := fun s H C cl fp => by rw [← hs]; rfl
    have hxl : X.env.scope.names.lookup x = some .local := by
      have q : ((sc.names.lookup x == some .local) && px.line == pos'.line && !(scope.names.any fun (n, k) => n == x && (k == .local || k == .cell))) = true := hsw
      simp only [Bool.and_eq_true, beq_iff_eq] at q
      rw [hs]; exact q.1.1
    have key := ps_setLc (py := px) (spos := pos) (pos := pos') (elt := f) G.calm G.nd (show X.N[i]? = some x by rw [G.names]; exact hN) hxl (by rw [sw_name hs hf rfl, hsw]) k1 (blkOk_by (own := ownOf N tg) (by rw [G.names, hs]; exact h2)) (g := tG X.K Tb tg) (tt := tTs X.K Tb (fun i => occ i c) (tstR (isZero c) (evE (Q.ctx n) c))) (te := tE X.K Tb W0 (fun i => occ i b) (evE (Q.ctx n) b)) (fun s H C cl fp => ?_) (fun s H C cl fp => ?_) (fun s H C cl fp => ?_) (folded_of k2 X.env)
    · refine key.weaken fun D' σ H q => ?_
      rw [ownOf_map]
      rw [lc_fun] at q
      exact i_lc (fun i z => by simp [occ, z]) (fun i z => by simp [z]) (fun i z => by simp [z]) (fun i z => by simp [z]) (fun i z => by
        simp only [Bool.or_eq_true] at z
        rcases z with (z | z) | z <;> simp only [occ, z, Bool.or_true, Bool.true_or]) q
    · exact (s_tg (X := X.blk s H scope (compEnvC scope cl C X.env) fp) (lc := lcB sc scope) (N := N) G.nd G.names G.calm (fun x hx => by
        obtain ⟨l1, l2⟩ := lcB_of hx
        rw [esc]
        exact ⟨l1, l2⟩) tg).1 g h3
    · have G' := G.toGood.blk s H scope (compEnvC scope cl C X.env) fp
      cases ifs with
      | nil =>
        have h4 : isZero c = true := h4
        rw [h4]
        exact ⟨fun pins s σ H Qv I ⟨ρ, k, w, h⟩ => pts_nil.run pins s σ H Qv I (pG_ok (a := true) h w)⟩
      | cons e1 r =>
        cases r with
        | nil =>
          have h4 : (!isZero c && chkT t N c (relS scope sc) e1) = true := h4
          simp only [Bool.and_eq_true, Bool.not_eq_true'] at h4
          rw [h4.1]
          have k3 := ((snd D c).pt _ W0 _ _ G' (esc s H C cl fp) h4.2).1
          exact ⟨fun pins s' σ H' Qv I q => (pts_one k3).run pins s' σ H' Qv I q⟩
        | cons _ _ => cases h4
    · exact (snd D b).pe _ W0 _ _ (G.toGood.blk s H scope (compEnvC scope cl C X.env) fp) (esc s H C cl fp) h5
  · cases h
/-- x = v, shared -/
theorem asg_e (D : DefsOk t Q) (G : GoodS t Q Tb ca n N X W) (hs : X.env.scope = sc) (hf : isFn sc = true) {i : Nat} {x : Str} {px pos : Pos} {v : Expr} {xa : Ex} (hN : N[i]? = some x) (hl : locB sc x = true) (hv : notSD v = true) (h : chkE t N xa sc v = true) :
    PS X (.Assign [.Name x px] v pos) (tAsg (tE X.K Tb W (fun i => occ i xa) (evE (Q.ctx n) xa)) (gName i)) := by
  by_cases hsw : swB sc x px v = true
  · have isl : ∃ tg k as c b, xa = .lc tg k as c b := by
      cases v with
      | ListComp a b s p =>
        cases xa <;> first | exact ⟨_, _, _, _, _, rfl⟩ | (unfold chkE at h; first | cases h | (unfold slN at h; cases h))
      | _ => cases hsw
    obtain ⟨tg, k, as, c, b, rfl⟩ := isl
    exact (asg_lc D G hs hf hN hsw h).weaken fun D' σ H q => f2e lc_list q
  · exact asg_name G hs hf hN hl hv (by simpa using hsw) ((snd D xa).pe X W sc v G.toGood hs h)
/-- x = v, one's own -/
theorem asg_f (D : DefsOk t Q) (G : GoodS t Q Tb ca n N X W) (hs : X.env.scope = sc) (hf : isFn sc = true) {i : Nat} {x : Str} {px pos : Pos} {v : Expr} {xa : Ex} (hN : N[i]? = some x) (hl : locB sc x = true) (hv : notSD v = true) (h : chkF t N xa sc v = true) :
    PS X (.Assign [.Name x px] v pos) (tAsg (tF X.K Tb W (fun i => occ i xa) fun ρ => (evE (Q.ctx n) xa ρ).bind ownG) (gName i)) := by
  by_cases hsw : swB sc x px v = true
  · have isl : ∃ tg k as c b, xa = .lc tg k as c b := by
      cases v with
      | ListComp a b s p =>
        cases xa with
        | lc tg k as c b => exact ⟨_, _, _, _, _, rfl⟩
        | bin o a b => cases o <;> (unfold chkF at h; dsimp only at h; cases h)
        | call f as =>
          unfold chkF at h
          dsimp only at h
          rw [Bool.and_eq_true] at h
          have h2 := h.2
          unfold chkE at h2
          cases h2
        | _ => unfold chkF at h; dsimp only at h; cases h
      | _ => cases hsw
    obtain ⟨tg, k, as, c, b, rfl⟩ := isl
    rw [ownG_list lc_list]
    exact asg_lc D G hs hf hN hsw h
  · exact asg_name G hs hf hN hl hv (by simpa using hsw) (t_own D G.toGood hs h)

/-! ### stores -/
theorem set_slots {K : PySem.W.Frag} {σ : L2.St} {ρ : Rho} {k H : Hp} {i : Nat} {v : V} {d : PyData} (w : WF K Tb σ ρ k H) (hi : i < ρ.length) (hv : Dp K k v d) (h0 : io = true → 0 ∉ [i]) :
    WF K Tb (σ.set i (some v)) (ρ.set i (.val d)) k H ∧ TrS Tb io σ ρ k H (σ.set i (some v)) (ρ.set i (.val d)) k H := ⟨wf_set w hi hv, (ag_set hi).toS h0⟩
theorem ss_set (D : DefsOk t Q) (G : GoodS t Q Tb ca n N X W) (hs : X.env.scope = sc) {g : Tg} {e : Ex} {st : Stmt} (h : chkS t N io own sc (.set g e) st = true) : PS X st (tS X.K Tb W io own (evS (Q.ctx n) (.set g e))) := by
  have ev : evS (Q.ctx n) (.set g e) = fun ρ => (evE (Q.ctx n) e ρ).bind fun (x, ρ1) => (bindT g x ρ1).bind fun ρ2 => .ok (.next, ρ2) := by funext ρ; rw [evS]
  unfold chkS at h
  split at h
  · rename_i x px v pos
    cases g with
    | name i =>
      simp only [Bool.and_eq_true, decide_eq_true_eq] at h
      obtain ⟨⟨⟨⟨⟨h1, h2⟩, h3⟩, h4⟩, h5⟩, h6⟩ := h
      refine (asg_e D G hs h3 h1 h2 h4 h6).weaken fun E σ H q => ?_
      rw [ev] at q
      obtain ⟨ρ, k, w, q⟩ := q
      refine ⟨ρ, k, w, pG_mono (pS_e q) (fun _ z => z) fun d ρ1 k1 H1 t1 w1 q1 u hu => ?_⟩
      dsimp only at q1
      obtain ⟨ρ2, e2, q2⟩ := pS_get q1 (fun c => bindT_noexc c)
      unfold bindT at e2
      by_cases hi : i < ρ1.length
      · rw [if_pos hi] at e2
        cases e2
        obtain ⟨w3, t3⟩ := set_slots (io := io) w1 hi hu (slot0_of h5)
        exact pS_next q2 t3 w3
      · rw [if_neg hi] at e2; cases e2
    | _ => cases h
  · rename_i ts k p v pos
    simp only [Bool.and_eq_true] at h
    obtain ⟨⟨⟨⟨⟨h1, h2⟩, h3⟩, h4⟩, h5⟩, h6⟩ := h
    have kg := (s_tg (X := X) (Tb := Tb) (lc := locB sc) (N := N) G.nd G.names G.calm (fun x hx => ⟨loc_of hs hx, .inl (G.fnT x)⟩) g).1 _ h1
    have hsw : swappedStores [.Tuple ts k p] v X.env = pure none := by
      cases v with
      | Tuple vs j q => exact st_of hs h2 (of_decide_eq_true h4)
      | _ => exact st_none fun _ _ _ z => by cases z
    refine (ps_asg ((snd D e).pe X W sc v G.toGood hs h6) kg (show swapsWith v (some (.Tuple ts k p)) pos.line X.env = _ from sw_tup h3) hsw rfl).weaken fun E σ H q => ?_
    rw [ev] at q
    obtain ⟨ρ, k, w, q⟩ := q
    refine ⟨ρ, k, w, pG_mono (pS_e q) (fun _ z => z) fun d ρ1 k1 H1 t1 w1 q1 u hu => ?_⟩
    dsimp only at q1
    obtain ⟨ρ2, e2, q2⟩ := pS_get q1 (fun c => bindT_noexc c)
    exact ⟨ρ1, k1, d, ρ2, w1, hu, e2, fun σ1 w2 ag => pS_next q2 (ag.toS (slot0_of h5)) w2⟩
  · cases h
theorem parS_noexc (c : Nat) : ∀ {is : List Nat} {ds : List PyData} {ρ : Rho}, parS is ds ρ ≠ .exc c := by
  intro is
  induction is with
  | nil => intro ds ρ h; cases ds <;> cases h
  | cons i is ih =>
    intro ds ρ h
    cases ds with
    | nil => cases h
    | cons d ds =>
      unfold parS at h
      split at h
      · exact ih h
      · cases h
theorem par_step {K : PySem.W.Frag} {i : Nat} {is : List Nat} {d : PyData} {ds : List PyData} {ρ ρ2 : Rho} {σ : L2.St} {k H : Hp} {v : V} (h : parS (i :: is) (d :: ds) ρ = .ok ρ2) (w : WF K Tb σ ρ k H) (hv : Dp K k v d) (h0 : io = true → 0 ∉ (i :: is)) :
    parS is ds (ρ.set i (.val d)) = .ok ρ2 ∧ WF K Tb (σ.set i (some v)) (ρ.set i (.val d)) k H ∧ TrS Tb io σ ρ k H (σ.set i (some v)) (ρ.set i (.val d)) k H ∧ (io = true → 0 ∉ is) := by
  unfold parS at h
  by_cases hi : i < ρ.length
  · rw [if_pos hi] at h
    obtain ⟨a, b⟩ := set_slots (io := io) w hi hv (fun z y => h0 z (by simp only [List.mem_singleton] at y; rw [y]; exact List.mem_cons_self))
    exact ⟨h, a, b, fun z y => h0 z (List.mem_cons_of_mem _ y)⟩
  · rw [if_neg hi] at h; cases h
theorem ss_par (D : DefsOk t Q) (G : GoodS t Q Tb ca n N X W) (hs : X.env.scope = sc) {is : List Nat} {as : Ex} {st : Stmt} (h : chkS t N io own sc (.par is as) st = true) : PS X st (tS X.K Tb W io own (evS (Q.ctx n) (.par is as))) := by
  have ev : evS (Q.ctx n) (.par is as) = fun ρ => (evA (Q.ctx n) as ρ).bind fun (xs, ρ1) => (parS is xs ρ1).bind fun ρ2 => .ok (.next, ρ2) := by funext ρ; rw [evS]
  unfold chkS at h
  split at h
  · rename_i ts kt pt vs k2 pt2 pos
    simp only [Bool.and_eq_true] at h
    obtain ⟨⟨⟨h1, h2⟩, h3⟩, h4⟩ := h
    obtain ⟨k1, _, k2', _⟩ := (snd D as).pa X W sc vs G.toGood hs h4
    unfold parOk at h2
    split at h2
    · rename_i i j x px y py a b
      simp only [Bool.and_eq_true, decide_eq_true_eq] at h2
      obtain ⟨⟨⟨⟨⟨n1, n2⟩, n3⟩, l1⟩, l2⟩, sw⟩ := h2
      refine (ps_par G.calm G.nd (by rw [G.names]; exact n1) (by rw [G.names]; exact n2) n3 (isLoc_of hs l1) (isLoc_of hs l2) k1 (st_of hs h1 sw)).weaken fun E σ H q => ?_
      rw [ev] at q
      obtain ⟨ρ, k, w, q⟩ := q
      refine ⟨ρ, k, w, pG_mono (pS_e q) (fun _ z => z) fun ds ρ1 k1 H1 t1 w1 q1 us hus => ?_⟩
      dsimp only at q1
      obtain ⟨ρ2, e2, q2⟩ := pS_get q1 (fun c => parS_noexc c)
      cases hus with
      | nil => cases e2
      | @cons u us' d ds' h5 h6 =>
        obtain ⟨e3, w3, t3, z3⟩ := par_step (io := io) e2 w1 h5 (slot0_of h3)
        cases h6 with
        | nil => cases e3
        | @cons u2 us2 d2 ds2 h7 h8 =>
          obtain ⟨e4, w4, t4, z4⟩ := par_step (io := io) e3 w3 h7 z3
          cases h8 with
          | nil =>
            cases e4
            exact ⟨_, _, rfl, pS_next q2 (t3.trans t4) w4⟩
          | cons _ _ => cases e4
    · rename_i i j l x px y py z pz a b c
      simp only [Bool.and_eq_true, decide_eq_true_eq] at h2
      obtain ⟨⟨⟨⟨⟨⟨⟨⟨⟨n1, n2⟩, n3⟩, m1⟩, m2⟩, m3⟩, l1⟩, l2⟩, l3⟩, sw⟩ := h2
      refine (ps_par3 G.calm G.nd (by rw [G.names]; exact n1) (by rw [G.names]; exact n2) (by rw [G.names]; exact n3) m1 m2 m3 (isLoc_of hs l1) (isLoc_of hs l2) (isLoc_of hs l3) k1 (st_of hs h1 sw)).weaken fun E σ H q => ?_
      rw [ev] at q
      obtain ⟨ρ, k, w, q⟩ := q
      refine ⟨ρ, k, w, pG_mono (pS_e q) (fun _ z => z) fun ds ρ1 k1 H1 t1 w1 q1 us hus => ?_⟩
      dsimp only at q1
      obtain ⟨ρ2, e2, q2⟩ := pS_get q1 (fun c => parS_noexc c)
      cases hus with
      | nil => cases e2
      | @cons u us' d ds' h5 h6 =>
        obtain ⟨e3, w3, t3, z3⟩ := par_step (io := io) e2 w1 h5 (slot0_of h3)
        cases h6 with
        | nil => cases e3
        | @cons u2 us2 d2 ds2 h7 h8 =>
          obtain ⟨e4, w4, t4, z4⟩ := par_step (io := io) e3 w3 h7 z3
          cases h8 with
          | nil => cases e4
          | @cons u3 us3 d3 ds3 h9 h10 =>
            obtain ⟨e5, w5, t5, z5⟩ := par_step (io := io) e4 w4 h9 z4
            cases h10 with
            | nil =>
              cases e5
              exact ⟨_, _, _, rfl, pS_next q2 ((t3.trans t4).trans t5) w5⟩
            | cons _ _ => cases e5
    · cases h2
  · cases h
theorem ownS_get {i : Nat} {d : PyData} {ρ ρ2 : Rho} (h : ownS i d ρ = .ok ρ2) : i < ρ.length ∧ ρ2 = ρ.set i (.own d) := by
  unfold ownS at h
  by_cases hi : i < ρ.length
  · rw [if_pos hi] at h
    cases d <;> first | (cases h; exact ⟨hi, rfl⟩) | cases h
  · rw [if_neg hi] at h; cases h
theorem ownS_noexc {i : Nat} {d : PyData} {ρ : Rho} (c : Nat) : ownS i d ρ ≠ .exc c := by
  intro h
  unfold ownS at h
  by_cases hi : i < ρ.length
  · rw [if_pos hi] at h; cases d <;> cases h
  · rw [if_neg hi] at h; cases h
theorem ss_own (D : DefsOk t Q) (G : GoodS t Q Tb ca n N X W) (hs : X.env.scope = sc) {i : Nat} {e : Ex} {st : Stmt} (h : chkS t N io own sc (.own i e) st = true) : PS X st (tS X.K Tb W io own (evS (Q.ctx n) (.own i e))) := by
  have ev : evS (Q.ctx n) (.own i e) = fun ρ => ((evE (Q.ctx n) e ρ).bind ownG).bind fun (x, ρ1) => (ownS i x ρ1).bind fun ρ2 => .ok (.next, ρ2) := by funext ρ; rw [evS]
  unfold chkS at h
  split at h
  · simp only [Bool.and_eq_true, decide_eq_true_eq] at h
    obtain ⟨⟨⟨⟨⟨h1, h2⟩, h3⟩, h4⟩, h5⟩, h6⟩ := h
    refine (asg_f D G hs h3 h1 h2 h4 h6).weaken fun E σ H q => ?_
    rw [ev] at q
    obtain ⟨ρ, k, w, q⟩ := q
    refine ⟨ρ, k, w, pG_mono (pS_e0 q) (fun _ z => z) fun d ρ1 k1 H1 t1 w1 q1 p hp kp ho => ?_⟩
    dsimp only at q1
    obtain ⟨ρ2, e2, q2⟩ := pS_get q1 (fun c => ownS_noexc c)
    obtain ⟨hi, rfl⟩ := ownS_get e2
    have hn : ∀ j, ¬ Own σ ρ1 j p := fun j o => w.ownNe (t1.own j p o) hp
    exact pS_next q2 (tr_setOwn (io := io) (d := d) (by rw [← w1.len]; exact hi) (fun j o => w.ownNe o hp) hp (fun z y => slot0_of h5 z (by rw [y]; exact List.mem_cons_self)) t1.toS) (wf_setOwn w1 hi kp ho hn)
  · cases h
end
end Fo

set_option Elab.async false
set_option linter.all false
set_option maxRecDepth 100000
set_option maxHeartbeats 4000000
/-! SemC4: the rest of the statements. -/
namespace Fo
open PySem L2 LamX PyProof.Rows
section
variable {t : Tx} {Q : Prog} {Tb : Tbs} {ca : Nat → Addr} {n : Nat} {N : List Str} {X : Cx} {W : XW} {sc : Scope} {io own : Bool}
theorem list_at {K : PySem.W.Frag} {σ : L2.St} {ρ : Rho} {k H : Hp} {i : Nat} {ys : List PyData} (w : WF K Tb σ ρ k H) (h : ownAt ρ i = .ok ys) : ∃ a us, Own σ ρ i a ∧ ρ[i]? = some (.own (.list ys)) ∧ H a = some (.lst us) ∧ DpAll K k us ys ∧ k a = none := by
  have e := own_get h
  obtain ⟨a, ow⟩ := own_of w h
  obtain ⟨d0, u0, e0, r0, ka, ha, nt⟩ := w.ownH ow
  rw [e] at e0
  cases e0
  obtain ⟨us, hu, du⟩ := r0
  exact ⟨a, us, ow, e, hu, du, ka⟩
theorem ss_app (D : DefsOk t Q) (G : GoodS t Q Tb ca n N X W) (hs : X.env.scope = sc) {i : Nat} {e : Ex} {st : Stmt} (h : chkS t N io own sc (.app i e) st = true) : PS X st (tS X.K Tb W io own (evS (Q.ctx n) (.app i e))) := by
  have ev : evS (Q.ctx n) (.app i e) = fun ρ => (ownAt ρ i).bind fun _ => (evE (Q.ctx n) e ρ).bind fun (x, ρ1) => (ownAt ρ1 i).bind fun xs => if xs.length < line then .ok (.next, ρ1.set i (.own (.list (xs ++ [x])))) else .bad := by funext ρ; rw [evS]
  unfold chkS at h
  split at h
  · simp only [Bool.and_eq_true, decide_eq_true_eq] at h
    obtain ⟨⟨⟨⟨h1, h2⟩, h3⟩, h4⟩, h5⟩ := h
    obtain ⟨y, p, rfl, g1, g2, g3, g4⟩ := slN_of hs G.names h1
    subst h2
    refine (ps_expr (pe_bm PySem.F.plainAttrs_list PySem.F.slot_list_append PySem.F.type_list_append mt_append (pe_var g1 g2 g3 g4) (pa_cons ((snd D e).pe X W sc _ G.toGood hs h5) pa_nil (star_cons h4 [] X.env)) (base_of rfl) (by rw [star_cons h4]; rfl) h3 (star_cons h4 _ _) rfl) (sw_comp rfl)).weaken fun E σ H q => ?_
    rw [ev] at q
    obtain ⟨ρ, k, w, q⟩ := q
    dsimp only at q
    obtain ⟨ys0, e0, q⟩ := pS_get q (fun c => ownAt_noexc c)
    obtain ⟨a, us0, ow, _, hu0, _, _⟩ := list_at w e0
    refine ⟨.ref a, ow.2, .inl ⟨rfl, _, .of hu0⟩, ρ, k, w, pG_mono (pS_e q) (fun _ z => z) fun d ρ1 k1 H1 t1 w1 q1 u hu => ?_⟩
    dsimp only at q1
    obtain ⟨ys, e1, q1⟩ := pS_get q1 (fun c => ownAt_noexc c)
    obtain ⟨hl, q1⟩ := pS_if q1
    obtain ⟨b, us, ob, e2, hu1, du, kb⟩ := list_at w1 e1
    have eab : b = a := by have e1 := ob.2; rw [ow.2] at e1; cases e1; rfl
    subst eab
    refine ⟨b, us, u, rfl, rfl, hu1, by rw [line_eq, du.lenD]; exact hl, ?_⟩
    obtain ⟨t2, w2⟩ := own_upd (m := fun _ => true) (d := .list (ys ++ [d])) (o := .lst (us ++ [u])) w1 ob rfl (fun ps z => by cases z) ⟨_, upd_same, du.appD (.cons hu .nil)⟩
    exact pS_next q1 t2.toS w2
  · cases h
theorem putSl_noexc {i : Nat} {y d : PyData} {ρ : Rho} (c : Nat) : putSl i y d ρ ≠ .exc c := by
  intro h
  unfold putSl at h
  split at h
  · rename_i xs j _
    cases q : ixN xs.length j with
    | none => rw [q] at h; cases h
    | some n => rw [q] at h; cases h
  · cases h
theorem ss_put (D : DefsOk t Q) (G : GoodS t Q Tb ca n N X W) (hs : X.env.scope = sc) {i : Nat} {b e : Ex} {st : Stmt} (h : chkS t N io own sc (.put i b e) st = true) : PS X st (tS X.K Tb W io own (evS (Q.ctx n) (.put i b e))) := by
  have ev : evS (Q.ctx n) (.put i b e) = fun ρ => (evE (Q.ctx n) e ρ).bind fun (x, ρ1) => (ownAt ρ1 i).bind fun _ => (evE (Q.ctx n) b ρ1).bind fun (y, ρ2) => (putSl i y x ρ2).bind fun ρ3 => .ok (.next, ρ3) := by funext ρ; rw [evS]
  unfold chkS at h
  split at h
  · rename_i f g sp v pos
    simp only [Bool.and_eq_true, decide_eq_true_eq] at h
    obtain ⟨⟨⟨⟨⟨h1, h2⟩, h3⟩, h4⟩, h5⟩, h6⟩ := h
    obtain ⟨y, p, rfl, g1, g2, g3, g4⟩ := slN_of hs G.names h1
    have ps : PSet X rSetL := set_list
    have as : PG X (.Subscript (.Name y p) g sp) (gSub (tVar i) (tE X.K Tb W (fun i => occ i b) (evE (Q.ctx n) b)) rSetL) := pg_sub (pe_var g1 g2 g3 g4) ((snd D b).pe X W sc _ G.toGood hs h5) ps (by
      intro v
      cases g <;> first | rfl | cases h2)
    refine (ps_asg ((snd D e).pe X W sc _ G.toGood hs h6) as (by show swapsWith v (some (.Subscript (.Name y p) g sp)) pos.line X.env = _; exact sw_comp h4) (by cases v <;> rfl) rfl).weaken fun E σ H q => ?_
    rw [ev] at q
    obtain ⟨ρ, k, w, q⟩ := q
    refine ⟨ρ, k, w, pG_mono (pS_e q) (fun _ z => z) fun d ρ1 k1 H1 t1 w1 q1 u hu => ?_⟩
    dsimp only at q1
    obtain ⟨ys0, e0, q1⟩ := pS_get q1 (fun c => ownAt_noexc c)
    obtain ⟨a, us0, ow, _, hu0, _, _⟩ := list_at w1 e0
    refine ⟨.ref a, ow.2, ρ1, k1, w1, pG_mono (pS_e q1) (fun _ z => z) fun z ρ2 k2 H2 t2 w2 q2 vz hz => ?_⟩
    dsimp only at q2
    obtain ⟨ρ3, e3, q2⟩ := pS_get q2 (fun c => putSl_noexc c)
    unfold putSl at e3
    split at e3
    · rename_i xs j e4
      cases q5 : ixN xs.length j with
      | none => rw [q5] at e3; cases e3
      | some nn =>
        rw [q5] at e3
        cases e3
        obtain ⟨bb, us, ob, e2, hu1, du, kb⟩ := list_at w2 (show ownAt ρ2 i = .ok xs by unfold ownAt; rw [e4])
        have eab : bb = a := by have e1 := ob.2; rw [ow.2] at e1; cases e1; rfl
        subst eab
        refine ⟨bb, us, j, nn, rfl, dp_int hz, hu1, by rw [du.lenD]; exact q5, ?_⟩
        obtain ⟨t3, w3⟩ := own_upd (m := fun _ => true) (d := .list (xs.set nn d)) (o := .lst (us.set nn u)) w2 ob rfl (fun ps z => by cases z) ⟨_, upd_same, du.setD (dp_mono t2.kk hu) nn⟩
        exact pS_next q2 t3.toS w3
    · cases e3
  · cases h
theorem putDl_noexc {i : Nat} {y d : PyData} {ρ : Rho} (c : Nat) : putDl i y d ρ ≠ .exc c := by
  intro h
  unfold putDl at h
  split at h
  · split at h <;> cases h
  · cases h
theorem ss_dput (D : DefsOk t Q) (G : GoodS t Q Tb ca n N X W) (hs : X.env.scope = sc) {i : Nat} {b e : Ex} {st : Stmt} (h : chkS t N io own sc (.dput i b e) st = true) : PS X st (tS X.K Tb W io own (evS (Q.ctx n) (.dput i b e))) := by
  have ev : evS (Q.ctx n) (.dput i b e) = fun ρ => (evE (Q.ctx n) e ρ).bind fun (x, ρ1) => (dictAt ρ1 i).bind fun _ => (evE (Q.ctx n) b ρ1).bind fun (y, ρ2) => (putDl i y x ρ2).bind fun ρ3 => .ok (.next, ρ3) := by funext ρ; rw [evS]
  unfold chkS at h
  split at h
  · rename_i f g sp v pos
    simp only [Bool.and_eq_true, decide_eq_true_eq] at h
    obtain ⟨⟨⟨⟨h1, h2⟩, h4⟩, h5⟩, h6⟩ := h
    obtain ⟨y, p, rfl, g1, g2, g3, g4⟩ := slN_of hs G.names h1
    refine (ps_dput (hu1 G.room) (pe_var g1 g2 g3 g4) ((snd D b).pe X W sc _ G.toGood hs h5) ((snd D e).pe X W sc _ G.toGood hs h6) (sw_comp h4)).weaken fun E σ H q => ?_
    rw [ev] at q
    obtain ⟨ρ, k, w, q⟩ := q
    refine ⟨ρ, k, w, pG_mono (pS_e q) (fun _ z => z) fun d ρ1 k1 H1 t1 w1 q1 u hu => ?_⟩
    dsimp only at q1
    obtain ⟨kvs0, e0, q1⟩ := pS_get q1 (fun c => dictAt_noexc c)
    obtain ⟨a, ks0, ow, _, _⟩ := dict_of w1 e0
    refine ⟨.ref a, ow.2, ρ1, k1, w1, pG_mono (pS_e q1) (fun _ z => z) fun z ρ2 k2 H2 t2 w2 q2 vz hz => ?_⟩
    dsimp only at q2
    obtain ⟨ρ3, e3, q2⟩ := pS_get q2 (fun c => putDl_noexc c)
    unfold putDl at e3
    split at e3
    · rename_i kvs s e4
      by_cases hl : kvs.length < line
      · rw [if_pos hl] at e3
        cases e3
        obtain ⟨bb, ks, ob, g5, g6⟩ := dict_of w2 (show dictAt ρ2 i = .ok kvs by unfold dictAt; rw [e4])
        have eab : bb = a := by have e1 := ob.2; rw [ow.2] at e1; cases e1; rfl
        subst eab
        have pk := put_kv (s := s) (dp_mono t2.kk hu) g6
        refine ⟨bb, upd H2 bb (.dK (putK ks (.inr s) u)), rfl, by rw [dp_str hz]; exact DPut.k (k := .inr s) g5 (by rw [line_eq, kv_len g6]; exact hl), ?_⟩
        obtain ⟨t3, w3⟩ := own_upd (m := fun _ => true) (d := .dict (putS kvs (.str s) d)) (o := .dK (putK ks (.inr s) u)) w2 ob rfl (fun ps z => by cases z) ⟨_, upd_same, pk⟩
        exact pS_next q2 t3.toS w3
      · rw [if_neg hl] at e3; cases e3
    · cases e3
  · cases h
theorem ss_ex (D : DefsOk t Q) (G : GoodS t Q Tb ca n N X W) (hs : X.env.scope = sc) {e : Ex} {st : Stmt} (h : chkS t N io own sc (.ex e) st = true) : PS X st (tS X.K Tb W io own (evS (Q.ctx n) (.ex e))) := by
  have ev : evS (Q.ctx n) (.ex e) = fun ρ => (evE (Q.ctx n) e ρ).bind fun (_, ρ1) => .ok (.next, ρ1) := by funext ρ; rw [evS]
  unfold chkS at h
  split at h
  · rw [Bool.and_eq_true] at h
    refine (ps_expr ((snd D e).pe X W sc _ G.toGood hs h.2) (sw_comp h.1)).weaken fun E σ H q => ?_
    rw [ev] at q
    obtain ⟨ρ, k, w, q⟩ := q
    exact ⟨ρ, k, w, pG_mono (pS_e q) (fun _ z => z) fun d ρ1 k1 H1 t1 w1 q1 u hu => pS_next q1 .refl w1⟩
  · cases h
theorem fr_list (D : DefsOk t Q) {sc : Scope} {v : Expr} {e : Ex} (h : chkFr t N e sc v = true) : (∀ ρ d ρ1, evE (Q.ctx n) e ρ = .ok (d, ρ1) → ∃ xs, d = .list xs) ∧ chkF t N e sc v = true := by
  cases e with
  | lst as =>
    refine ⟨?_, h⟩
    have e : evE (Q.ctx n) (.lst as) = fun ρ => (evA (Q.ctx n) as ρ).bind fun (xs, ρ1) => if xs.length ≤ line then .ok (.list xs, ρ1) else .bad := by funext ρ; rw [evE]
    rw [e]; exact lst_list lst_g
  | lc tg k s c el => exact ⟨lc_list, h⟩
  | call f as =>
    refine ⟨?_, h⟩
    have h : chkF t N (.call f as) sc v = true := h
    unfold chkF at h
    dsimp only at h
    rw [Bool.and_eq_true] at h
    have h2 := h.2
    unfold chkE at h2
    split at h2
    · simp only [Bool.and_eq_true, Bool.not_eq_true'] at h2
      obtain ⟨⟨h1, _⟩, _⟩ := h2
      split at h1
      · rename_i y hy
        obtain ⟨F, hF, _, ho⟩ := D f y hy
        exact ev_call_list hF (by rw [ho]; exact h.1)
      · cases h1
    · cases h2
  | _ => unfold chkFr at h; cases h
theorem ss_ret (D : DefsOk t Q) (G : GoodS t Q Tb ca n N X W) (hs : X.env.scope = sc) {e : Ex} {st : Stmt} (h : chkS t N io own sc (.ret e) st = true) : PS X st (tS X.K Tb W io own (evS (Q.ctx n) (.ret e))) := by
  have ev : evS (Q.ctx n) (.ret e) = fun ρ => (evE (Q.ctx n) e ρ).bind fun (x, ρ1) => .ok (.ret x, ρ1) := by funext ρ; rw [evS]
  unfold chkS at h
  split at h
  · by_cases ho : own = true
    · rw [if_pos ho] at h
      obtain ⟨hl, h⟩ := fr_list (n := n) D h
      have key := t_own (W := W) D G.toGood hs h
      rw [ownG_list hl] at key
      refine (ps_ret key).weaken fun E σ H q => ?_
      rw [ev] at q
      obtain ⟨ρ, k, w, q⟩ := q
      refine ⟨ρ, k, w, pG_mono (pS_e0 q) (fun _ z => z) fun d ρ1 k1 H1 t1 w1 q1 p hp kp ow => q1 _ σ k1 H1 t1.toS w1 ?_⟩
      unfold RetOk
      rw [if_pos ho]
      exact ⟨p, rfl, .inl hp, kp, ow⟩
    · rw [if_neg ho] at h
      refine (ps_ret ((snd D e).pe X W sc _ G.toGood hs h)).weaken fun E σ H q => ?_
      rw [ev] at q
      obtain ⟨ρ, k, w, q⟩ := q
      refine ⟨ρ, k, w, pG_mono (pS_e0 q) (fun _ z => z) fun d ρ1 k1 H1 t1 w1 q1 u hu => q1 _ σ k1 H1 t1.toS w1 ?_⟩
      unfold RetOk
      rw [if_neg ho]
      exact hu
  · cases h
theorem ss_retO (G : GoodS t Q Tb ca n N X W) (hs : X.env.scope = sc) {i : Nat} {st : Stmt} (h : chkS t N io own sc (.retO i) st = true) : PS X st (tS X.K Tb W io own (evS (Q.ctx n) (.retO i))) := by
  have ev : evS (Q.ctx n) (.retO i) = fun ρ => (ownAt ρ i).bind fun xs => .ok (.ret (.list xs), ρ) := by funext ρ; rw [evS]
  unfold chkS at h
  split at h
  · simp only [Bool.and_eq_true] at h
    obtain ⟨⟨h1, h2⟩, h3⟩ := h
    obtain ⟨y, p, rfl, g1, g2, g3, g4⟩ := slN_of hs G.names h3
    refine (ps_ret (pe_var g1 g2 g3 g4)).weaken fun E σ H q => ?_
    rw [ev] at q
    obtain ⟨ρ, k, w, q⟩ := q
    dsimp only at q
    obtain ⟨xs, e0, q⟩ := pS_get q (fun c => ownAt_noexc c)
    obtain ⟨a, us, ow, _, hu, du, ka⟩ := list_at w e0
    refine ⟨.ref a, ow.2, q _ σ k H .refl w ?_⟩
    unfold RetOk
    rw [if_pos h1]
    exact ⟨a, rfl, .inr ⟨i, ow, fun z y => slot0_of h2 z (by rw [y]; exact List.mem_cons_self)⟩, ka, us, hu, du⟩
  · cases h
theorem ss_retN (G : GoodS t Q Tb ca n N X W) {st : Stmt} (h : chkS t N io own sc .retN st = true) : PS X st (tS X.K Tb W io own (evS (Q.ctx n) .retN)) := by
  have ev : evS (Q.ctx n) .retN = fun ρ => .ok (.ret .none, ρ) := by funext ρ; rw [evS]
  unfold chkS at h
  split at h
  · have ho : ¬ own = true := by intro z; rw [z] at h; cases h
    refine ps_retN.weaken fun E σ H q => ?_
    rw [ev] at q
    obtain ⟨ρ, k, w, q⟩ := q
    refine q _ σ k H .refl w ?_
    unfold RetOk
    rw [if_neg ho]
    exact .non
  · cases h
theorem ss_raise (G : GoodS t Q Tb ca n N X W) (hs : X.env.scope = sc) {c : Nat} {st : Stmt} (h : chkS t N io own sc (.raise c) st = true) : PS X st (tS X.K Tb W io own (evS (Q.ctx n) (.raise c))) := by
  have ev : evS (Q.ctx n) (.raise c) = fun ρ => .exc c := by funext ρ; rw [evS]
  unfold chkS at h
  split at h
  · split at h
    · rename_i y hy
      obtain ⟨e1, e2, e3, e4⟩ := gl_of hs h
      subst e1
      obtain ⟨x1, x2, ⟨B, nI, iI, bm, x3, x4⟩, x5, x6⟩ := G.ok.xn c _ hy
      refine (L2N.ps_raise G.calm G.tk (L2N.pmk_own x3 x4 x1 x2 (raises_own x5 x6) e2 e3)).weaken fun E σ H q => ?_
      rw [ev] at q
      obtain ⟨ρ, k, w, q⟩ := q
      exact ⟨c, rfl, rfl, q σ H ⟨fun _ _ h _ => .inl h, fun _ h => h, w.tab⟩⟩
    · cases h
  · cases h
theorem ss_cond (D : DefsOk t Q) (G : GoodS t Q Tb ca n N X W) (hs : X.env.scope = sc) {c : Ex} {a b : Sx} {f : Expr} {g h' : List Stmt} {pos : Pos} (h : chkT t N c sc f = true) (ha : PSs X g (tS X.K Tb W io own (evS (Q.ctx n) a))) (hb : PSs X h' (tS X.K Tb W io own (evS (Q.ctx n) b))) :
    PS X (.If f g h' pos) (tS X.K Tb W io own (evS (Q.ctx n) (.cond c a b))) := by
  have ev : evS (Q.ctx n) (.cond c a b) = fun ρ => ((evE (Q.ctx n) c ρ).bind boolR).bind fun (t, ρ1) => if t = true then evS (Q.ctx n) a ρ1 else evS (Q.ctx n) b ρ1 := by funext ρ; rw [evS]
  refine (ps_if ((snd D c).pt X W sc _ G.toGood hs h).1 ha hb).weaken fun E σ H q => ?_
  rw [ev] at q
  obtain ⟨ρ, k, w, q⟩ := q
  refine ⟨ρ, k, w, pG_mono (pS_e q) (fun _ z => z) fun d ρ1 k1 H1 t1 w1 q1 => ?_⟩
  dsimp only at q1
  by_cases hd : d = true
  · rw [if_pos hd] at q1 ⊢; exact ⟨ρ1, k1, w1, q1⟩
  · rw [if_neg hd] at q1 ⊢; exact ⟨ρ1, k1, w1, q1⟩
theorem ss_while (D : DefsOk t Q) (G : GoodS t Q Tb ca n N X W) (hs : X.env.scope = sc) {c : Ex} {b : Sx} {f : Expr} {g : List Stmt} {pos : Pos} (h : chkT t N c sc f = true) (hb : PSs X g (tS X.K Tb W io own (evS (Q.ctx n) b))) :
    PS X (.While f g [] pos) (tS X.K Tb W io own (evS (Q.ctx n) (.while c b))) := by
  have ev : evS (Q.ctx n) (.while c b) = fun ρ => goW (fun r => (evE (Q.ctx n) c r).bind boolR) (evS (Q.ctx n) b) turns ρ := by funext ρ; rw [evS]
  refine (ps_while G.po ((snd D c).pt X W sc _ G.toGood hs h).1 hb).weaken fun E σ H q => ?_
  rw [ev] at q
  refine ⟨fun m σ H => tS X.K Tb W io own (goW (fun r => (evE (Q.ctx n) c r).bind boolR) (evS (Q.ctx n) b) m) E σ H, ⟨turns, q⟩, fun m σ H q => ?_⟩
  obtain ⟨ρ, k, w, q⟩ := q
  cases m with
  | zero => exact q.elim
  | succ m =>
    have q : pS X.K Tb W io own σ ρ k H (((evE (Q.ctx n) c ρ).bind boolR).bind fun (t, ρ1) => if t = true then (evS (Q.ctx n) b ρ1).bind fun (f, ρ2) => match f with
      | .next => goW (fun r => (evE (Q.ctx n) c r).bind boolR) (evS (Q.ctx n) b) m ρ2
      | .ret d => .ok (.ret d, ρ2)
      else .ok (.next, ρ1)) E := q
    refine ⟨ρ, k, w, pG_mono (pS_e q) (fun _ z => z) fun d ρ1 k1 H1 t1 w1 q1 => ?_⟩
    dsimp only at q1
    by_cases hd : d = true
    · rw [if_pos hd] at q1 ⊢
      refine ⟨fun σ H => tS X.K Tb W io own (goW (fun r => (evE (Q.ctx n) c r).bind boolR) (evS (Q.ctx n) b) m) E σ H, fun σ' H' z => ⟨m, Nat.lt_succ_self m, z⟩, ρ1, k1, w1, ?_⟩
      exact pS_mono (pS_seq (g := goW (fun r => (evE (Q.ctx n) c r).bind boolR) (evS (Q.ctx n) b) m) (D := E) q1) (fun _ _ _ _ _ _ z => z) (fun _ _ z => z)
    · rw [if_neg hd] at q1 ⊢
      exact pS_next q1 .refl w1
theorem i_loop (D : DefsOk t Q) (G : GoodS t Q Tb ca n N X W) (hs : X.env.scope = sc) {k : ItK} {s : Ex} {tg it : Expr} (h : chkI sc k (fun es => chkA t N s sc es) tg it = true) :
    PI X tg it (tI X.K Tb W (fun i => occ i s) (fun _ => true) (itP k (evA (Q.ctx n) s))) ∧ noSet it = true := by
  obtain ⟨k1, k2⟩ := t_chkI (W := W) (Q := Q) (n := n) (Tb := Tb) (m := fun i => occ i s) (oc := fun _ => true) G.toGood hs (snd D s) h fun _ z => z
  refine ⟨?_, k2⟩
  by_cases hk : k = .seq
  · subst hk
    unfold chkI at h
    rw [Bool.and_eq_true] at h
    have h5 : chkA t N s sc [it] = true := h.2
    obtain ⟨_, _, _, k3⟩ := (snd D s).pa X W sc _ G.toGood hs h5
    cases s with
    | cons xa xr =>
      have h5' := h5
      unfold chkA at h5'
      simp only [Bool.and_eq_true] at h5'
      have xr0 : xr = .nil := by
        have := h5'.2
        cases xr <;> first | rfl | (unfold chkA at this; cases this)
      subst xr0
      obtain ⟨k4, k5, k6⟩ := k3 xa .nil it [] rfl rfl
      have e1 : itP .seq (evA (Q.ctx n) (.cons xa .nil)) = fun ρ => (evE (Q.ctx n) xa ρ).bind fun (d, ρ1) => (ofOpt (itD .seq [d])).bind fun xs => .ok (xs, ρ1) := by
        funext ρ
        unfold itP
        rw [evA]
        cases evE (Q.ctx n) xa ρ with
        | bad => rfl
        | exc c => rfl
        | ok q => obtain ⟨d, ρ1⟩ := q; show ((evA (Q.ctx n) .nil ρ1).bind (fun (xs, ρ2) => R.ok (d :: xs, ρ2))).bind _ = _; rw [evA]; rfl
      rw [e1]
      refine (pi_seq k4).weaken fun σ H R' ⟨ρ, kk, w, q⟩ => ⟨ρ, kk, w, pG_mono (pG_bind q) (fun i z => by simp [occ, z]) fun d ρ1 k1 H1 t1 w1 q1 v hv => ?_⟩
      obtain ⟨xs, e3, g⟩ := pG_itD (ds := [d]) q1 w1
      cases hv with
      | lst g1 g2 =>
        cases e3
        exact ⟨_, rfl, .inl ⟨⟨_, w1.sub.seq g1⟩, g _ _ (yl_list g1 g2) (.inl rfl)⟩⟩
      | tup g1 g2 =>
        cases e3
        exact ⟨_, rfl, .inr ⟨⟨_, sqt_mono w1.sub g1⟩, g _ _ (yl_tup g1 g2) (.inl rfl)⟩⟩
      | _ => cases e3
    | _ => unfold chkA at h5; cases h5
  · have e : peekI k s (fun _ => true) (evA (Q.ctx n) s) = itP k (evA (Q.ctx n) s) := peekI_other hk
    rw [e] at k1
    exact k1
theorem ss_loop (D : DefsOk t Q) (G : GoodS t Q Tb ca n N X W) (hs : X.env.scope = sc) {g : Tg} {k : ItK} {s : Ex} {b : Sx} {tg it : Expr} {body : List Stmt} {pos : Pos} (hg : chkG N (locB sc) g tg = true) (h : chkI sc k (fun es => chkA t N s sc es) tg it = true)
    (h0 : noSlot0 io g.slots = true) (hb : PSs X body (tS X.K Tb W io own (evS (Q.ctx n) b))) : PS X (.For tg it body [] pos) (tS X.K Tb W io own (evS (Q.ctx n) (.loop g k s b))) := by
  have ev : evS (Q.ctx n) (.loop g k s b) = fun ρ => (itP k (evA (Q.ctx n) s) ρ).bind fun (xs, ρ1) => goL (bindT g) (evS (Q.ctx n) b) xs ρ1 := by funext ρ; rw [evS]
  obtain ⟨k1, k2⟩ := i_loop (W := W) (Tb := Tb) D G hs h
  have kg := (s_tg (X := X) (Tb := Tb) (lc := locB sc) (N := N) G.nd G.names G.calm (fun x hx => ⟨loc_of hs hx, .inl (G.fnT x)⟩) g).1 _ hg
  refine (ps_for G.po G.calm k1 kg hb (folded_of k2 X.env)).weaken fun E σ H q => ?_
  rw [ev] at q
  obtain ⟨ρ, kk, w, q⟩ := q
  refine ⟨ρ, kk, w, pG_mono (pS_e q) (fun _ z => z) fun xs ρ1 k1 H1 t1 w1 q1 J P yl pok => ?_⟩
  have eP : P = fun k _ => Same k1 k := by
    rcases pok with z | ⟨i, a, us, z, _⟩
    · exact z
    · cases z
  subst eP
  dsimp only at q1
  refine ⟨fun i m σ' H' => m = xs.length - i ∧ i ≤ xs.length ∧ ∃ ρ' k', WF X.K Tb σ' ρ' k' H' ∧ Same k1 k' ∧ pS X.K Tb W io own σ' ρ' k' H' (goL (bindT g) (evS (Q.ctx n) b) (xs.drop i) ρ') E, ⟨xs.length, by omega, Nat.zero_le _, ρ1, k1, w1, fun _ _ z => z, by rw [List.drop_zero]; exact q1⟩, ?_⟩
  rintro i m σ' H' ⟨rfl, hi, ρ', k', w', kk', q'⟩
  by_cases hlt : i < xs.length
  · have hx : xs[i]? = some xs[i] := List.getElem?_eq_getElem hlt
    obtain ⟨jgo, jy⟩ := yl.go i k' H' _ hx w'.sub kk'
    rw [List.drop_eq_getElem_cons hlt] at q'
    refine .inr ⟨jgo, fun σ'' H'' => ∃ ρ'' k'', WF X.K Tb σ'' ρ'' k'' H'' ∧ Same k1 k'' ∧ pS X.K Tb W io own σ'' ρ'' k'' H'' (goL (bindT g) (evS (Q.ctx n) b) (xs.drop (i + 1)) ρ'') E, fun σ'' H'' z => ⟨xs.length - (i + 1), by omega, rfl, hlt, z⟩, fun y Hy hy => ?_⟩
    obtain ⟨ka, px, dy⟩ := jy y Hy hy
    have wa := w'.px px
    have q2 : pS X.K Tb W io own σ' ρ' ka Hy ((bindT g xs[i] ρ').bind fun ρa => thenS (evS (Q.ctx n) b ρa) (goL (bindT g) (evS (Q.ctx n) b) (xs.drop (i + 1)))) E := pS_from q' (Px.tr (ms := fun _ => true) px).toS
    obtain ⟨ρa, e2, q2⟩ := pS_get q2 (fun c => bindT_noexc c)
    refine ⟨ρ', ka, xs[i], ρa, wa, dy, e2, fun σ1 w1' ag => ?_⟩
    have q3 := pS_seqK (pS_from q2 (ag.toS (slot0_of h0)))
    refine ⟨ρa, ka, w1', pS_mono q3 (fun σ3 ρ3 k3 H3 t3 w3 z => ?_) (fun _ _ z => z)⟩
    obtain ⟨ρ4, k4, w4, s4, z⟩ := z
    exact ⟨ρ4, k4, w4, (kk'.trans px.kk).trans s4, z⟩
  · have ei : i = xs.length := by omega
    subst ei
    rw [List.drop_length] at q'
    exact .inl ⟨yl.stop _ k' H' (Nat.le_refl _) w'.sub kk', pS_next q' .refl w'⟩
end
end Fo
namespace Fo
open PySem L2 LamX PyProof.Rows
section
variable {t : Tx} {Q : Prog} {Tb : Tbs} {ca : Nat → Addr} {n : Nat} {N : List Str} {X : Cx} {W : XW} {sc : Scope} {io own : Bool}
/-- every statement, every block -/
theorem ss (D : DefsOk t Q) (G : GoodS t Q Tb ca n N X W) (hs : X.env.scope = sc) (s : Sx) :
    (∀ st, chkS t N io own sc s st = true → PS X st (tS X.K Tb W io own (evS (Q.ctx n) s))) ∧ (∀ sts, chkSs t N io own sc s sts = true → PSs X sts (tS X.K Tb W io own (evS (Q.ctx n) s))) := by
  induction s with
  | skip =>
    refine ⟨fun st h => (by unfold chkS at h; cases h), fun sts h => ?_⟩
    unfold chkSs at h
    have ev : evS (Q.ctx n) .skip = fun ρ => .ok (.next, ρ) := by funext ρ; rw [evS]
    split at h
    · refine pss_nil.weaken fun E σ H q => ?_
      rw [ev] at q
      obtain ⟨ρ, k, w, q⟩ := q
      exact pS_next q .refl w
    · cases h
  | seq s r ihs ihr =>
    refine ⟨fun st h => (by unfold chkS at h; cases h), fun sts h => ?_⟩
    unfold chkSs at h
    have ev : evS (Q.ctx n) (.seq s r) = fun ρ => thenS (evS (Q.ctx n) s ρ) (evS (Q.ctx n) r) := by funext ρ; rw [evS]; rfl
    split at h
    · rw [Bool.and_eq_true] at h
      refine (pss_cons (ihs.1 _ h.1) (ihr.2 _ h.2)).weaken fun E σ H q => ?_
      rw [ev] at q
      obtain ⟨ρ, k, w, q⟩ := q
      exact ⟨ρ, k, w, pS_seq q⟩
    · cases h
  | set g e => exact ⟨fun st h => ss_set D G hs h, fun sts h => by unfold chkSs at h; cases h⟩
  | par is as => exact ⟨fun st h => ss_par D G hs h, fun sts h => by unfold chkSs at h; cases h⟩
  | own i e => exact ⟨fun st h => ss_own D G hs h, fun sts h => by unfold chkSs at h; cases h⟩
  | app i e => exact ⟨fun st h => ss_app D G hs h, fun sts h => by unfold chkSs at h; cases h⟩
  | put i k e => exact ⟨fun st h => ss_put D G hs h, fun sts h => by unfold chkSs at h; cases h⟩
  | dput i k e => exact ⟨fun st h => ss_dput D G hs h, fun sts h => by unfold chkSs at h; cases h⟩
  | ex e => exact ⟨fun st h => ss_ex D G hs h, fun sts h => by unfold chkSs at h; cases h⟩
  | ret e => exact ⟨fun st h => ss_ret D G hs h, fun sts h => by unfold chkSs at h; cases h⟩
  | retO i => exact ⟨fun st h => ss_retO G hs h, fun sts h => by unfold chkSs at h; cases h⟩
  | retN => exact ⟨fun st h => ss_retN G h, fun sts h => by unfold chkSs at h; cases h⟩
  | cond c a b iha ihb =>
    refine ⟨fun st h => ?_, fun sts h => by unfold chkSs at h; cases h⟩
    unfold chkS at h
    split at h
    · simp only [Bool.and_eq_true] at h
      exact ss_cond D G hs h.1.1 (iha.2 _ h.1.2) (ihb.2 _ h.2)
    · cases h
  | loop g k s b ih =>
    refine ⟨fun st h => ?_, fun sts h => by unfold chkSs at h; cases h⟩
    unfold chkS at h
    split at h
    · simp only [Bool.and_eq_true] at h
      exact ss_loop D G hs h.1.1.1 h.1.1.2 h.1.2 (ih.2 _ h.2)
    · cases h
  | «while» c b ih =>
    refine ⟨fun st h => ?_, fun sts h => by unfold chkSs at h; cases h⟩
    unfold chkS at h
    split at h
    · simp only [Bool.and_eq_true] at h
      exact ss_while D G hs h.1 (ih.2 _ h.2)
    · cases h
  | raise c => exact ⟨fun st h => ss_raise G hs h, fun sts h => by unfold chkSs at h; cases h⟩
end
end Fo

set_option Elab.async false
set_option linter.all false
set_option maxRecDepth 100000
set_option maxHeartbeats 4000000
/-! SemC5: a def of the text, by a check of its body. -/
namespace Fo
open PySem L2 LamX PyProof.Rows

section
variable {K : PySem.W.Frag} {T : Tbs} {σ : L2.St} {ρ : Rho} {k H : Hp}
theorem get_pad {α : Type} {xs : List α} {x y : α} {m i : Nat} (h : (xs ++ List.replicate m x)[i]? = some y) (hy : y ≠ x) : xs[i]? = some y := by
  by_cases hi : i < xs.length
  · rw [List.getElem?_append_left hi] at h; exact h
  · rw [List.getElem?_append_right (by omega), List.getElem?_replicate] at h
    split at h
    · exact absurd (Option.some.inj h).symm hy
    · cases h
theorem get_padL {α : Type} {xs : List α} {x y : α} {m i : Nat} (h : xs[i]? = some y) : (xs ++ List.replicate m x)[i]? = some y := by
  rw [List.getElem?_append_left (List.getElem?_eq_some_iff.mp h).1]; exact h
theorem own_pad {m i : Nat} {a : Addr} (o : Own (σ ++ List.replicate m none) (ρ ++ List.replicate m .no) i a) : Own σ ρ i a := by
  obtain ⟨⟨d, e1⟩, e2⟩ := o
  exact ⟨⟨d, get_pad e1 (fun z => by cases z)⟩, get_pad e2 (fun z => by cases z)⟩
theorem wf_pad (w : WF K T σ ρ k H) (m : Nat) : WF K T (σ ++ List.replicate m none) (ρ ++ List.replicate m .no) k H where
  sub := w.sub
  ntb := w.ntb
  tab := w.tab
  len := by rw [List.length_append, List.length_append, List.length_replicate, List.length_replicate, w.len]
  val := fun i d e => by
    obtain ⟨v, g1, g2⟩ := w.val i d (get_pad e (fun z => by cases z))
    exact ⟨v, get_padL g1, g2⟩
  own := fun i d e => by
    obtain ⟨v, g1, g2⟩ := w.own i d (get_pad e (fun z => by cases z))
    exact ⟨v, get_padL g1, g2⟩
  dis := fun i j a o1 o2 => w.dis i j a (own_pad o1) (own_pad o2)
theorem vals_of : ∀ {vs : List V} {ds : List PyData} {b : Nat} {σ0 : L2.St} {ρ0 : Rho}, WF K T σ0 ρ0 k H → (∀ i, (vs.map some)[i]? = σ0[b + i]?) → (∀ i, (ds.map Sl.val)[i]? = ρ0[b + i]?) → vs.length = ds.length → DpAll K k vs ds
  | [], [], _, _, _, _, _, _, _ => .nil
  | v :: vs, d :: ds, b, σ0, ρ0, w, h1, h2, hl => by
    have e1 := h1 0
    have e2 := h2 0
    obtain ⟨u, g1, g2⟩ := w.val (b + 0) d e2.symm
    rw [← e1] at g1
    cases g1
    refine .cons g2 (vals_of (b := b + 1) w (fun i => ?_) (fun i => ?_) (by simpa using hl))
    · have := h1 (i + 1); rw [show b + (i + 1) = b + 1 + i by omega] at this; exact this
    · have := h2 (i + 1); rw [show b + (i + 1) = b + 1 + i by omega] at this; exact this
  | [], _ :: _, _, _, _, _, _, _, hl => by cases hl
  | _ :: _, [], _, _, _, _, _, _, hl => by cases hl
end
theorem start_eq (F : Df) (ds : List PyData) : Fo.start F ds = argS F ds ++ List.replicate (F.ns - ds.length) .no := rfl
section
variable {K : PySem.W.Frag} {T : Tbs} {F : Df} {vs : List V} {ds zs : List PyData} {k H k1 H1 : Hp} {σ1 : L2.St} {ρ1 : Rho} {N : List Str}
theorem io_own {i : Nat} {a : Addr} (o : Own (vs.map some) (argS F ds) i a) : ioS F i = true := by
  unfold ioS
  cases hio : F.io with
  | false =>
    obtain ⟨⟨d, e⟩, _⟩ := o
    unfold argS at e
    rw [hio] at e
    obtain ⟨_, _, z⟩ := get_val e
    cases z
  | true =>
    obtain ⟨⟨d, e⟩, _⟩ := o
    unfold argS at e
    rw [hio] at e
    cases ds with
    | nil => cases e
    | cons d0 r =>
      cases i with
      | zero => rfl
      | succ i =>
        have e : (r.map Sl.val)[i]? = some (.own d) := e
        obtain ⟨_, _, z⟩ := get_val e
        cases z
/-- the def's end, seen from its call -/
theorem fin_all (w : WF K T (vs.map some) (argS F ds) k H) (hl : vs.length = ds.length) (hnp : F.io = true → ds ≠ []) (hN : N.length - vs.length = F.ns - ds.length)
    (t : TrS T F.io (L2.start N vs) (Fo.start F ds) k H σ1 ρ1 k1 H1) (w1 : WF K T σ1 ρ1 k1 H1) (hz : F.io = true → ownAt ρ1 0 = .ok zs) :
    Tr T (ioS F) (vs.map some) (argS F ds) k H (backS F ds zs) k1 H1 ∧ WF K T (vs.map some) (backS F ds zs) k1 H1 := by
  have lift : ∀ {i a}, Own (L2.start N vs) (Fo.start F ds) i a → Own (vs.map some) (argS F ds) i a := fun {i a} o => by
    rw [start_eq] at o
    unfold L2.start at o
    rw [hN] at o
    exact own_pad o
  have t0 : ∀ {ρ2 : Rho}, (∀ i, ioS F i = false → ρ2[i]? = (argS F ds)[i]?) → (∀ i a, Own (vs.map some) ρ2 i a → Own (vs.map some) (argS F ds) i a) → Tr T (ioS F) (vs.map some) (argS F ds) k H ρ2 k1 H1 := fun h1 h2 =>
    ⟨t.kk, fun a q => (t.new a q).imp id (Or.imp id fun ⟨i, o⟩ => ⟨i, io_own (lift o), lift o⟩), fun a o q nt => (t.frm a o q nt).imp id fun ⟨i, o⟩ => ⟨i, io_own (lift o), lift o⟩, t.dom, h1, h2, fun _ => w1.tab⟩
  cases hio : F.io with
  | false =>
    have ea : argS F ds = ds.map .val := by unfold argS; rw [hio]
    have eb : backS F ds zs = ds.map .val := by unfold backS; rw [hio]
    rw [eb]
    refine ⟨t0 (fun i _ => by rw [ea]) (fun i a o => by rw [ea]; exact o), ?_⟩
    rw [ea] at w
    exact wf_vals w1 (dps_mono t.kk (vals_of (b := 0) w (fun i => by rw [Nat.zero_add]) (fun i => by rw [Nat.zero_add]) hl))
  | true =>
    cases ds with
    | nil => exact absurd rfl (hnp hio)
    | cons d0 r =>
      cases vs with
      | nil => cases hl
      | cons v0 us =>
        have ea : argS F (d0 :: r) = .own d0 :: r.map .val := by unfold argS; rw [hio]
        have eb : backS F (d0 :: r) zs = .own (.list zs) :: r.map .val := by unfold backS; rw [hio]
        have w' := w
        rw [ea] at w'
        obtain ⟨a, g1, g2, g3⟩ := w'.own 0 d0 rfl
        have e0 : v0 = .ref a := by
          have : some (some v0) = some (some (V.ref a)) := g1
          cases this; rfl
        subst e0
        have hd : DpAll K k us r := vals_of (b := 1) w' (fun i => by rw [Nat.add_comm]; rfl) (fun i => by rw [Nat.add_comm]; rfl) (by simpa using hl)
        have ez := own_get (hz hio)
        obtain ⟨b, b1, b2, b3⟩ := w1.own 0 _ ez
        have e1 : σ1[0]? = some (some (V.ref a)) := (t.io0 hio).trans rfl
        rw [e1] at b1
        cases b1
        rw [eb]
        refine ⟨t0 (fun i hi => ?_) (fun i x o => ?_), wf_io w1 b2 b3 (dps_mono t.kk hd)⟩
        · cases i with
          | zero => unfold ioS at hi; rw [hio] at hi; cases hi
          | succ i => rw [ea]; rfl
        · obtain ⟨i0, x0⟩ := own_io o
          subst i0; subst x0
          rw [ea]
          exact ⟨⟨d0, rfl⟩, rfl⟩
end
/-- what a def's text must be -/
structure DefC (t : Tx) (N ps : List Str) (F : Df) (st : Stmt) : Prop where
  S : FnScope N ps (defScope st)
  np : ps.length = F.np
  ns : N.length = F.ns
  io : F.io = true → 0 < F.np
  body : chkSs t N F.io F.own (defScope st) F.body (defBody st) = true
theorem sp_len {K : PySem.W.Frag} {Tb : Tbs} {Q : Prog} {ca : Nat → Addr} {n f : Nat} {F : Df} {vs : List V} {H : Hp} {Qv : VK} {E : XK} (h : spD K Tb Q ca n f F vs H Qv E) : vs.length = F.np := by
  obtain ⟨_, _, _, h, _⟩ := h
  exact h
section
variable {P : Program} {w : World} {K : PySem.W.Frag} {mg : Str → Option Value} {base : Heap} {t : Tx} {Q : Prog} {Tb : Tbs} {ca : Nat → Addr} {n : Nat}
theorem fn_ok0 {f : Addr} {fd : FuncData} {ps : List Str} {fi : Nat} {F : Df} (hp : ps.length = F.np) : FnOk P w K mg base (L2N.CX P w) 0 f fd ps (spD K Tb Q ca 0 fi F) :=
  ⟨fun vs H Qv E h => by rw [sp_len h, hp], fun A outer s H args us vs Qv E _ _ _ _ h => by
    obtain ⟨k, ds, _, _, _, h⟩ := h
    exact h.elim⟩
/-- the frame's part of what a lambda asks -/
structure LamL (P : Program) (w : World) (K : PySem.W.Frag) (mg : Str → Option Value) (base : Heap) (t : Tx) (Q : Prog) (Tb : Tbs) (ca : Nat → Addr) (cdv : Value) (qual : Str) : Prop where
  fr : ∃ c P', TabB base mg c P' ∧ cdv = .ref c ∧ (P', qual ++ "<lambda>") ∈ Tb ∧ ∀ p ∈ Tb, p.1 = P' → p.2 = qual ++ "<lambda>"
  ln : ∀ f y, t.ln f = some y → ∃ ga a Ng pg bg sg, LamDef P w K mg base Tb ca y (Q.lam f) ga a Ng pg bg sg
theorem lamF_of {X : Cx} {cdv : Value} {qual : Str} (h : LamL X.prog X.w X.K X.mg X.base t Q Tb ca cdv qual) (e1 : X.env.code = cdv) (e2 : X.env.qual = qual) : LamF t Q Tb ca X := by
  subst e1 e2
  exact ⟨let ⟨c, P', h1, h2, h3, h4⟩ := h.fr; ⟨c, P', h1, h2, h3, h4⟩, h.ln⟩
theorem fn_okS {x qual : Str} {st : Stmt} {f : Addr} {N ps : List Str} {fi : Nat} {F : Df} {oc : Value} {od an : Option Addr} {osl : Array (Option Value)} {dV kV doc pm cdv ct : Value}
    (D : DefsOk t Q) (ok : ∀ m, m ≤ n → TxOk P w K mg base t Q Tb ca m) (lk : K.lookup f = some ⟨oc, od, .func (PySem.W.fnOf x qual (defArgs st) (defBody st) (defScope st) dV kV doc pm an cdv ct), osl⟩) (hcd : PySem.W.codeIn K cdv qual = true)
    (hlam : t.lamb = true → LamL P w K mg base t Q Tb ca cdv (qual ++ ".<locals>.")) (C : DefC t N ps F st) (hF : Q.defs fi = some F) :
    FnOk P w K mg base (L2N.CX P w) (n + 1) f (PySem.W.fnOf x qual (defArgs st) (defBody st) (defScope st) dV kV doc pm an cdv ct) ps (spD K Tb Q ca (n + 1) fi F) := by
  refine fn_of lk hcd C.S (fun vs H Qv E h => by rw [sp_len h, C.np]) fun A outer s H vs Qv E hr hsp => ?_
  refine ⟨tS K Tb (fun c _ H' => E (.ref (ca c)) none H') F.io F.own (evS (Q.ctx n) F.body), ?_, ?_⟩
  · have hx : (cxOf (L2N.CX P w) P w K mg base N qual (defScope st) f cdv A outer s H E).xe = fun e s' => wpAny (model P w) (A.deeper (envOfC qual (defScope st) s.heap.objs.size f cdv)) (leaving (envOfC qual (defScope st) s.heap.objs.size f cdv) e) (fun _ s'' => L2N.CX P w outer H s E e s'') (fun e' s'' => L2N.CX P w outer H s E e' s'') s' := rfl
    have G : GoodS t Q Tb ca n N (cxOf (L2N.CX P w) P w K mg base N qual (defScope st) f cdv A outer s H E) (fun c _ H' => E (.ref (ca c)) none H') := {
      names := rfl
      nd := C.S.nd
      calm := rfl
      room := hr
      tk := (L2N.takes_of rfl rfl rfl hx).imp fun c d σ H' ⟨c', e1, e2, e3⟩ => by subst e1; subst e2; exact e3
      oks := ok
      lam := fun z => lamF_of (cdv := cdv) (qual := qual ++ ".<locals>.") (hlam z) rfl rfl
      po := passes_of hx
      fnT := fun _ => rfl }
    exact (ss D G rfl F.body).2 _ C.body
  · obtain ⟨k, ds, w0, l1, l2, h⟩ := hsp
    have hl : vs.length = ds.length := by rw [l1, l2]
    have hNl : N.length - vs.length = F.ns - ds.length := by rw [C.ns, hl]
    have wS : WF K Tb (L2.start N vs) (Fo.start F ds) k H := by
      rw [start_eq]
      unfold L2.start
      rw [hNl]
      exact wf_pad w0 _
    refine ⟨Fo.start F ds, k, wS, ?_⟩
    have lift : ∀ {i a}, Own (L2.start N vs) (Fo.start F ds) i a → Own (vs.map some) (argS F ds) i a := fun {i a} o => by
      rw [start_eq] at o
      unfold L2.start at o
      rw [hNl] at o
      exact own_pad o
    have hne : F.io = true → ds ≠ [] := fun z y => by
      have := C.io z
      rw [y] at l2
      rw [← l2] at this
      exact Nat.lt_irrefl _ this
    have ec : callF Q (n + 1) fi ds = (evS (Q.ctx n) F.body (Fo.start F ds)).bind (finish F) := by
      rw [callF_succ, hF]
      dsimp only
      rw [if_pos l2]
    rw [ec] at h
    cases r : evS (Q.ctx n) F.body (Fo.start F ds) with
    | bad => rw [r] at h; exact h.elim
    | exc c =>
      rw [r] at h
      have h : ∀ H1, TrX Tb (ioS F) (vs.map some) (argS F ds) H H1 → E (.ref (ca c)) none H1 := h
      intro σ1 H1 tx
      exact h H1 ⟨fun a o q nt => (tx.1 a o q nt).imp id fun ⟨i, o⟩ => ⟨i, io_own (lift o), lift o⟩, tx.2⟩
    | ok p =>
      obtain ⟨fl, ρ1⟩ := p
      rw [r] at h
      have h : match finish F (fl, ρ1) with
        | .ok (d, zs) => ∀ v k1 H1, Tr Tb (ioS F) (vs.map some) (argS F ds) k H (backS F ds zs) k1 H1 → WF K Tb (vs.map some) (backS F ds zs) k1 H1 → Back K F H v d k1 H1 → Qv v H1
        | .exc c => ∀ H1, TrX Tb (ioS F) (vs.map some) (argS F ds) H H1 → E (.ref (ca c)) none H1
        | .bad => False := h
      unfold finish at h
      dsimp only at h
      have key : ∃ zs, (F.io = true → ownAt ρ1 0 = .ok zs) ∧ (if F.io = true then ownAt ρ1 0 else R.ok []) = .ok zs := by
        by_cases hio : F.io = true
        · rw [if_pos hio] at h ⊢
          cases q : ownAt ρ1 0 with
          | bad => rw [q] at h; exact h.elim
          | exc c => exact absurd q (ownAt_noexc c)
          | ok zs => exact ⟨zs, fun _ => rfl, rfl⟩
        · rw [if_neg hio]; exact ⟨[], fun z => absurd z hio, rfl⟩
      obtain ⟨zs, hz, ez⟩ := key
      rw [ez] at h
      cases fl with
      | next =>
        have h : match (if F.own = true then R.bad else .ok (PyData.none, zs)) with
          | .ok (d, zs) => ∀ v k1 H1, Tr Tb (ioS F) (vs.map some) (argS F ds) k H (backS F ds zs) k1 H1 → WF K Tb (vs.map some) (backS F ds zs) k1 H1 → Back K F H v d k1 H1 → Qv v H1
          | .exc c => ∀ H1, TrX Tb (ioS F) (vs.map some) (argS F ds) H H1 → E (.ref (ca c)) none H1
          | .bad => False := h
        by_cases ho : F.own = true
        · rw [if_pos ho] at h; exact h.elim
        · rw [if_neg ho] at h
          intro σ1 k1 H1 t1 w1
          obtain ⟨a1, a2⟩ := fin_all w0 hl hne hNl t1 w1 hz
          refine h .non k1 H1 a1 a2 ?_
          unfold Back
          rw [if_neg ho]
          exact .non
      | ret d =>
        have h : match (if F.own = true ∧ isLst d = false then R.bad else .ok (d, zs)) with
          | .ok (d, zs) => ∀ v k1 H1, Tr Tb (ioS F) (vs.map some) (argS F ds) k H (backS F ds zs) k1 H1 → WF K Tb (vs.map some) (backS F ds zs) k1 H1 → Back K F H v d k1 H1 → Qv v H1
          | .exc c => ∀ H1, TrX Tb (ioS F) (vs.map some) (argS F ds) H H1 → E (.ref (ca c)) none H1
          | .bad => False := h
        by_cases hb : F.own = true ∧ isLst d = false
        · rw [if_pos hb] at h; exact h.elim
        · rw [if_neg hb] at h
          intro v σ1 k1 H1 t1 w1 ro
          obtain ⟨a1, a2⟩ := fin_all w0 hl hne hNl t1 w1 hz
          refine h v k1 H1 a1 a2 ?_
          unfold RetOk at ro
          unfold Back
          by_cases ho : F.own = true
          · rw [if_pos ho] at ro ⊢
            obtain ⟨p, e1, e2, e3, e4⟩ := ro
            refine ⟨p, e1, e2.elim id fun ⟨i, o, ni⟩ => ?_, e3, e4⟩
            have z := io_own (lift o)
            unfold ioS at z
            rw [Bool.and_eq_true, beq_iff_eq] at z
            exact absurd z.2 (ni z.1)
          · rw [if_neg ho] at ro ⊢; exact ro
end
end Fo

set_option Elab.async false
set_option linter.all false
set_option maxRecDepth 100000
set_option maxHeartbeats 4000000
/-! SemH1: the ends of iterators while an exception is handled (after HandS.Hot). -/
namespace HotX
open PySem PySem.Spec PyProof.Rows
section
variable {prog : Program} {w : World} {A : Around} {E : Value → Shared → Prop} {s : Shared}
theorem HotAt.keep {x1 : Addr} {h h' : Heap} (hot : HotAt A x1 h) (k : ∀ o, h.get? x1 = some o → h'.get? x1 = some o) : HotAt A x1 h' := by
  obtain ⟨hh, o, vs, e, d, c⟩ := hot
  exact ⟨hh, o, vs, k o e, d, c⟩
/-- StopIteration is made and raised -/
theorem fo_stop {α : Type} {x1 : Addr} {Q : α → Shared → Prop} (hot : HotAt A x1 s.heap)
    (hE : ∀ h' e, (∀ b o, s.heap.get? b = some o → h'.get? b = some o) → (∃ o, h'.get? e = some o ∧ o.cls = .type "StopIteration") → E (.ref e) { s with heap := h' }) :
    wpAny (model prog w) A (newExc (.type "StopIteration") []) (fun a s' => wpAny (model prog w) A (raiseNew a : Sem α) Q E s') E s := by
  obtain ⟨hh, o1, vs1, h1, d1, c1⟩ := hot
  simp only [newExc, newTuple]
  refine wpAny_bind (wpAny_newObj_type ?_ (by size_fits))
  refine wpAny_bind (m := firstArgMember _ _) (wpAny_of_eq (a := Value.none) (by first | rfl | (simp only [firstArgMember]; rfl)) ?_)
  refine wpAny_newObj_type ?_ (by size_fits)
  refine raiseNew_hot ⟨hh, o1, vs1, Heap.get?_push_of_some _ (Heap.get?_push_of_some _ h1), d1, c1⟩ (Nat.ne_of_lt (Heap.lt_size (Heap.get?_push_of_some _ h1))) (Heap.get?_push_size _ rfl) rfl (by first | (simp; done) | (simp; omega) | (simp only [Array.size_append]; simp; omega)) ?_
  refine hE _ _ (fun b o e => ?_) ⟨_, Heap.get?_update_self _ (Heap.get?_push_size _ rfl) rfl, rfl⟩
  rw [Heap.get?_update_other _ _ (Nat.ne_of_gt (Heap.lt_size (Heap.get?_push_of_some _ e)))]
  exact Heap.get?_push_of_some _ (Heap.get?_push_of_some _ e)
theorem fo_nextOf_list_end {it l x1 : Addr} {i : Nat} {items} {Q : Value → Shared → Prop} (hot : HotAt A x1 s.heap) (hne : x1 ≠ it)
    (hit : s.heap.IsListIter it l i) (hl : s.heap.IsList l items) (hx : items[i]? = none)
    (hE : ∀ h' e, Heap.ExtBut it s.heap h' → (∃ o, h'.get? e = some o ∧ o.cls = .type "StopIteration") → E (.ref e) { s with heap := h' }) :
    wpAny (model prog w) A (Builtin.SmallTypes.nextOf (.ref it)) Q E s := by
  obtain ⟨o, ho, hc, hd⟩ := id hit
  obtain ⟨ol, hol, _, nl, hdl⟩ := hl
  unfold Builtin.SmallTypes.nextOf
  refine wpAny_bind (wpAny_callSpecial?_slot (name := Str.ofString "__next__") hit.typeIs slot_listiter_next
    (wpAny_call_entry slot_listiter_next hit.typeIs entry_listiter_next ?_ (args_listiter_next _)))
  show wpAny _ _ (field (.ref it) 0 >>= _) _ _ s
  refine wpAny_bind (wpAny_field ho hd (x := .ref l) rfl ?_)
  show wpAny _ _ (if (Value.ref l == Value.none) = true then _ else _) _ _ s
  rw [if_neg (show ¬ ((Value.ref l == Value.none) = true) from Bool.false_ne_true)]
  show wpAny _ _ (field (.ref it) 1 >>= _) _ _ s
  refine wpAny_bind (wpAny_field ho hd (x := .int i 0) rfl ?_)
  show wpAny _ _ (seqItems? (.ref l) >>= _) _ _ s
  refine wpAny_bind (wpAny_seqItems hol hdl ?_)
  simp only [Int.toNat_natCast, hx]
  refine wpAny_bind (wpAny_rule (wpAny_bind (wpAny_setField ho hd (by simp) ?_)))
  have sb : Heap.SameBut it s.heap (s.heap.update it (Obj.mapFields (·.setIfInBounds 0 Value.none))) := Heap.SameBut.update ..
  refine wpAny_bind ?_
  refine fo_stop (x1 := x1) ?_ fun h' e k he => hE h' e (fun b o hb eb => k b o ((sb.2 b hb).trans eb)) he
  exact hot.keep fun o e => (sb.2 x1 hne).trans e
theorem fo_next_tuple_end {it t x1 : Addr} {i : Nat} {items} {Q : Option Value → Shared → Prop} (hot : HotAt A x1 s.heap) (hne : x1 ≠ it)
    (hit : IsTupIter s.heap it t i) (ht : IsTup s.heap t items) (hx : items[i]? = none)
    (hQ : ∀ h', Heap.ExtBut it s.heap h' → Q none { s with heap := h' }) : wpAny (model prog w) A (pyNext (.ref it)) Q E s := by
  obtain ⟨o, ho, hc, hd⟩ := id hit
  obtain ⟨ol, hol, _, nl, hdl⟩ := ht
  unfold pyNext
  refine wpAny_bind (wpAny_attempt (wpAny_callSpecial?_slot (name := Str.ofString "__next__") hit.typeIs slot_tupleiter_next
    (wpAny_call_entry slot_tupleiter_next hit.typeIs entry_tupleiter_next ?_ (args_tupleiter_next _))))
  show wpAny _ _ (field (.ref it) 0 >>= _) _ _ s
  refine wpAny_bind (wpAny_field ho hd (x := .ref t) rfl ?_)
  show wpAny _ _ (if (Value.ref t == Value.none) = true then _ else _) _ _ s
  rw [if_neg (show ¬ ((Value.ref t == Value.none) = true) from Bool.false_ne_true)]
  show wpAny _ _ (field (.ref it) 1 >>= _) _ _ s
  refine wpAny_bind (wpAny_field ho hd (x := .int i 0) rfl ?_)
  show wpAny _ _ (seqItems? (.ref t) >>= _) _ _ s
  refine wpAny_bind (wpAny_seqItems hol hdl ?_)
  simp only [Int.toNat_natCast, hx]
  refine wpAny_bind (wpAny_rule (wpAny_bind (wpAny_setField ho hd (by simp) ?_)))
  have sb : Heap.SameBut it s.heap (s.heap.update it (Obj.mapFields (·.setIfInBounds 0 Value.none))) := Heap.SameBut.update ..
  refine wpAny_bind ?_
  refine fo_stop (x1 := x1) ?_ fun h' e k he => ?_
  · exact hot.keep fun o e => (sb.2 x1 hne).trans e
  obtain ⟨oe, e1, e2⟩ := he
  refine wpAny_bind (wpAny_isInstance (T := "StopIteration") (b := true) ⟨oe, e1, e2⟩ isSubtype_stop ?_)
  exact wpAny_pure (hQ _ fun b o hb eb => k b o ((sb.2 b hb).trans eb))
theorem fo_unpackItems {t x1 : Addr} {items : Array Value} {Q : List Value → Shared → Prop} (hot : HotAt A x1 s.heap) (ht : IsTup s.heap t items)
    (hQ : ∀ h', Heap.ExtBut s.heap.objs.size s.heap h' → Q items.toList { s with heap := h' }) : wpAny (model prog w) A (unpackItems (.ref t) items.size none) Q E s := by
  have hlt : t ≠ s.heap.objs.size := by obtain ⟨o, ho, _⟩ := ht; exact Nat.ne_of_lt (Heap.lt_size ho)
  have hx1 : x1 ≠ s.heap.objs.size := by obtain ⟨_, o, _, ho, _⟩ := hot; exact Nat.ne_of_lt (Heap.lt_size ho)
  unfold unpackItems
  refine wpAny_bind ?_
  · unfold notIterableAtAll
    refine wpAny_bind (wpAny_specialOf ht.typeIs slot_tuple_iter.lookup ?_)
    refine wpAny_pure ?_
    simp only [Bool.false_eq_true, if_false]
    refine wpAny_bind (wpAny_holding (iter_tuple ht ?_))
    refine wpAny_bind (wpAny_holding (draw_tuple hlt items.size 0 _ _ ⟨_, Heap.get?_push_size _ rfl, rfl, rfl⟩ (ht.push _) (by omega) fun h₁ hit₁ hs₁ => ?_))
    have hall : List.take items.size (List.drop 0 items.toList) = items.toList := by
      rw [List.drop_zero]; exact List.take_of_length_le (by simp)
    rw [hall]
    rw [if_neg (by simp)]
    have ht₁ : IsTup h₁ t items := (ht.push _).extBut hs₁.extBut hlt
    refine wpAny_bind (wpAny_holding (fo_next_tuple_end (hot.keep fun o e => hs₁.extBut _ _ hx1 (Heap.get?_push_of_some _ e)) hx1 hit₁ ht₁ (by simp) fun h₂ he₂ => ?_))
    simp only [Option.isSome_none, Bool.false_eq_true, if_false]
    refine wpAny_pure (hQ h₂ fun b o hb e => he₂ b o hb (hs₁.extBut b o hb (Heap.get?_push_of_some _ e)))
theorem fo_assign_tuple {env : Env} {elts : List Expr} {j : Nat} {pos : Pos} {t x1 : Addr} {items : Array Value} {Q : Unit → Shared → Prop} (hot : HotAt A x1 s.heap) (ht : IsTup s.heap t items)
    (hn : (assignEach elts env).length = items.size) (hstar : (assignEach elts env).findIdx? (·.1) = none)
    (h : ∀ h', Heap.ExtBut s.heap.objs.size s.heap h' → wpAny (model prog w) A (assignInOrder ((assignEach elts env).map (·.2)) items.toList) Q E { s with heap := h' }) :
    wpAny (model prog w) A (assign (.Tuple elts j pos) env (.ref t)) Q E s := by
  rw [assign_Tuple]
  refine wpAny_bind (wpAny_standAt ?_)
  unfold unpack
  rw [hn, hstar]
  exact wpAny_bind (wpAny_holding (fo_unpackItems hot ht h))
theorem fo_zip_end {z TI TO i1 i2 l1 l2 x1 : Addr} {k1 k2 : Nat} {xs ys : Array Value} {a b : Value} {Q : Fin → Shared → Prop} (hot : HotAt A x1 s.heap) (n1 : x1 ≠ z) (n2 : x1 ≠ TO) (n3 : x1 ≠ i1) (n4 : x1 ≠ i2) (D : ZipApart z TI TO i1 i2 l1 l2)
    (hz : IsZip s.heap z TI TO .none) (hTI : IsPair s.heap TI (.ref i1) (.ref i2)) (hTO : IsPair s.heap TO a b)
    (h1 : s.heap.IsListIter i1 l1 k1) (h2 : s.heap.IsListIter i2 l2 k2) (hl1 : s.heap.IsList l1 xs) (hl2 : s.heap.IsList l2 ys) (hend : xs[k1]? = none ∨ ys[k2]? = none)
    (hE : ∀ h' e, (∀ c o, c ≠ z → c ≠ TO → c ≠ i1 → c ≠ i2 → s.heap.get? c = some o → h'.get? c = some o) → (∃ o, h'.get? e = some o ∧ o.cls = .type "StopIteration") → E (.ref e) { s with heap := h' }) :
    wpAny (model prog w) A (Builtin.«zip.__next__» ⟨[.ref z], []⟩) Q E s := by
  show wpAny _ _ (field (.ref z) 2 >>= _) _ _ _
  refine wpAny_bind (wpAny_field hz rfl (x := .bool false) rfl ?_)
  show wpAny _ _ (field (.ref z) 3 >>= _) _ _ _
  refine wpAny_bind (wpAny_field hz rfl (x := .ref TI) rfl ?_)
  refine wpAny_bind (wpAny_seqItems hTI rfl ?_)
  show wpAny _ _ (Builtin.SmallTypes.ownedTupleIsFree (.ref z) >>= _) _ _ _
  refine wpAny_bind ?_
  unfold Builtin.SmallTypes.ownedTupleIsFree
  refine wpAny_bind (wpAny_field hz rfl (x := .none) rfl (wpAny_pure ?_))
  simp only [if_true]
  refine wpAny_bind (wpAny_rule ?_)
  refine wpAny_bind (wpAny_field hz rfl (x := .ref TO) rfl ?_)
  refine wpAny_bind (wpAny_setField_rec hz (by simp) fun h₁ hz₁ hs₁ => ?_)
  replace hz₁ : IsZip h₁ z TI TO .ellipsis := hz₁
  refine wpAny_bind ?_
  simp only [List.zipIdx_cons, List.zipIdx_nil, List.forIn_cons, List.forIn_nil]
  refine wpAny_bind (wpAny_bind (wpAny_onRaise ?_))
  show wpAny _ _ (Builtin.SmallTypes.nextOf (.ref i1) >>= _) _ _ _
  have hot₁ : HotAt A x1 h₁ := hot.keep fun o e => hs₁.extBut _ _ n1 e
  cases hx : xs[k1]? with
  | none =>
    refine wpAny_bind (fo_nextOf_list_end hot₁ n3 (h1.extBut hs₁.extBut D.i1z) (hl1.extBut hs₁.extBut D.l1z) hx fun h₂ e hs₂ he => ?_)
    obtain ⟨oe, hoe, hce⟩ := he
    have hz₂ : IsZip h₂ z TI TO .ellipsis := hs₂ _ _ D.i1z.symm hz₁
    have hez : e ≠ z := fun x => by subst x; rw [hz₂] at hoe; cases hoe; simp at hce
    refine wpAny_setField_rec hz₂ (by simp) fun h₃ _ hs₃ => hE h₃ e (fun c o c1 _ c3 _ x => hs₃.extBut _ _ c1 (hs₂ _ _ c3 (hs₁.extBut _ _ c1 x))) ⟨oe, hs₃.extBut _ _ hez hoe, hce⟩
  | some x =>
    have hy : ys[k2]? = none := by rcases hend with h | h; rw [hx] at h; cases h; exact h
    refine wpAny_bind (wpAny_nextOf_list_item (h1.extBut hs₁.extBut D.i1z) (hl1.extBut hs₁.extBut D.l1z) hx fun h₂ h1₂ hs₂ => wpAny_pure ?_)
    have hTO₂ : IsPair h₂ TO a b := hs₂.extBut _ _ D.TOi1 (hs₁.extBut _ _ D.TOz hTO)
    refine wpAny_bind (wpAny_seqItems hTO₂ rfl ?_)
    refine wpAny_bind (wpAny_updateSeq_pair hTO₂ fun h₃ hTO₃ hs₃ => ?_)
    refine wpAny_bind (wpAny_letGo (wpAny_pure ?_))
    refine wpAny_bind (wpAny_bind (wpAny_onRaise ?_))
    show wpAny _ _ (Builtin.SmallTypes.nextOf (.ref i2) >>= _) _ _ _
    have hot₃ : HotAt A x1 h₃ := hot₁.keep fun o e => hs₃.extBut _ _ n2 (hs₂.extBut _ _ n3 e)
    refine wpAny_bind (fo_nextOf_list_end hot₃ n4 (((h2.extBut hs₁.extBut D.i2z).extBut hs₂.extBut D.i12.symm).extBut hs₃.extBut D.TOi2.symm)
      (((hl2.extBut hs₁.extBut D.l2z).extBut hs₂.extBut D.l2i1).extBut hs₃.extBut D.l2TO) hy fun h₄ e hs₄ he => ?_)
    obtain ⟨oe, hoe, hce⟩ := he
    have hz₄ : IsZip h₄ z TI TO .ellipsis := hs₄ _ _ D.i2z.symm (hs₃.extBut _ _ D.TOz.symm (hs₂.extBut _ _ D.i1z.symm hz₁))
    have hez : e ≠ z := fun x => by subst x; rw [hz₄] at hoe; cases hoe; simp at hce
    refine wpAny_setField_rec hz₄ (by simp) fun h₅ _ hs₅ => hE h₅ e (fun c o c1 c2 c3 c4 x => hs₅.extBut _ _ c1 (hs₄ _ _ c4 (hs₃.extBut _ _ c2 (hs₂.extBut _ _ c3 (hs₁.extBut _ _ c1 x))))) ⟨oe, hs₅.extBut _ _ hez hoe, hce⟩
theorem fo_pyNext_zip_end {z TI TO i1 i2 l1 l2 x1 : Addr} {k1 k2 : Nat} {xs ys : Array Value} {a b : Value} {Q : Option Value → Shared → Prop} (hot : HotAt A x1 s.heap) (n1 : x1 ≠ z) (n2 : x1 ≠ TO) (n3 : x1 ≠ i1) (n4 : x1 ≠ i2) (D : ZipApart z TI TO i1 i2 l1 l2)
    (hz : IsZip s.heap z TI TO .none) (hTI : IsPair s.heap TI (.ref i1) (.ref i2)) (hTO : IsPair s.heap TO a b)
    (h1 : s.heap.IsListIter i1 l1 k1) (h2 : s.heap.IsListIter i2 l2 k2) (hl1 : s.heap.IsList l1 xs) (hl2 : s.heap.IsList l2 ys) (hend : xs[k1]? = none ∨ ys[k2]? = none)
    (hQ : ∀ h', (∀ c o, c ≠ z → c ≠ TO → c ≠ i1 → c ≠ i2 → s.heap.get? c = some o → h'.get? c = some o) → Q none { s with heap := h' }) : wpAny (model prog w) A (pyNext (.ref z)) Q E s := by
  have hT : s.TypeIs (.ref z) "zip" := ⟨_, hz, rfl⟩
  unfold pyNext
  refine wpAny_bind (wpAny_attempt (wpAny_callSpecial?_slot (name := Str.ofString "__next__") hT F.slot_zip_next
    (wpAny_call_entry F.slot_zip_next hT F.entry_zip_next (fo_zip_end (A := A.in1) hot n1 n2 n3 n4 D hz hTI hTO h1 h2 hl1 hl2 hend fun h' e hk he => ?_) (F.args_zip_next_1 _))))
  obtain ⟨o, ho, hc⟩ := he
  refine wpAny_bind (wpAny_isInstance (T := "StopIteration") (b := true) ⟨o, ho, hc⟩ isSubtype_stop ?_)
  exact wpAny_pure (hQ _ hk)
end
end HotX

set_option Elab.async false
set_option linter.all false
set_option maxRecDepth 100000
set_option maxHeartbeats 4000000
/-! SemH2: zip and a list comprehension while an exception is handled (after HandS.HotCalls, HandS.Iter, HandS.Comp). -/
namespace L2H
open PySem PySem.Spec PyProof.Rows L2 HotX
/-- the handled exception's object, apart from an iterator's -/
theorem HotC.at2 {X : Cx} {pins : List (Addr × Obj)} {σ : L2.St} {H : Hp} {s : Shared} {fp : List Addr} (c : HotC X) (I : Inv X pins σ H s) (hf : ∀ b ∈ fp, FpOk X pins H b) : ∃ x1, HotAt X.A x1 s.heap ∧ ∀ b ∈ fp, x1 ≠ b := by
  obtain ⟨p, ⟨hh, v1, e1, c1⟩, hp⟩ := c
  exact ⟨p.1, ⟨hh, p.2, v1, (I.pin p (List.mem_append_left _ hp)).1, e1, c1⟩, fun b hb => (hf b hb).2.2.2.2.2 p (List.mem_append_left _ hp)⟩
theorem turn_zipH {P : Program} {w : World} {K : PySem.W.Frag} {elts : List Expr} {kk : Nat} {tpos : Pos} {a b z TI TO i1 i2 : Addr} (D : ZipApart z TI TO i1 i2 a b) :
    TurnH P w K (.Tuple elts kk tpos) (Itz K a b) [z, TI, TO, i1, i2] z (fun i h => IsZip h z TI TO .none ∧ IsPair h TI (.ref i1) (.ref i2) ∧ (∃ x y, IsPair h TO x y) ∧ h.IsListIter i1 a i ∧ h.IsListIter i2 b i) where
  mem := by simp
  obj := fun i h st c hc => by
    obtain ⟨hz, hTI, ⟨x, y, hTO⟩, ⟨o1, e1, _, d1⟩, ⟨o2, e2, _, d2⟩⟩ := st
    have e' : c = z ∨ c = TI ∨ c = TO ∨ c = i1 ∨ c = i2 := by simpa using hc
    rcases e' with q | q | q | q | q
    · rw [q]; exact ⟨_, hz, fun v q => nomatch q⟩
    · rw [q]; exact ⟨_, hTI, fun v q => nomatch q⟩
    · rw [q]; exact ⟨_, hTO, fun v q => nomatch q⟩
    · rw [q]; exact ⟨o1, e1, fun v q => by rw [d1] at q; cases q⟩
    · rw [q]; exact ⟨o2, e2, fun v q => by rw [d2] at q; cases q⟩
  keep := fun i h h' st k => by
    obtain ⟨hz, hTI, ⟨x, y, hTO⟩, h1, h2⟩ := st
    exact ⟨k z (by simp) _ hz, k TI (by simp) _ hTI, ⟨x, y, k TO (by simp) _ hTO⟩, h1.at fun o q => k i1 (by simp) o q, h2.at fun o q => k i2 (by simp) o q⟩
  item := by
    intro X hP hw hK hc i pins s σ H E I hf st hg
    subst hP hw hK
    obtain ⟨hz, hTI, ⟨x0, y0, hTO⟩, h1, h2⟩ := st
    obtain ⟨xs, ys, x, y, hqx, hqy, hx, hy⟩ := hg
    obtain ⟨its, rv, p, _⟩ := I.list hqx
    obtain ⟨its2, rv2, p2, _⟩ := I.list hqy
    obtain ⟨u, hu, ru⟩ := rv.get hx
    obtain ⟨u2, hu2, ru2⟩ := rv2.get hy
    have hzl : z < s.heap.objs.size := Heap.lt_size hz
    refine wpAny_pyNext_zip_item D hz hTI hTO h1 h2 p.isList p2.isList (x := u) (y := u2) (by simpa using hu) (by simpa using hu2) fun h' z' TO' h1' h2' hT hsz hk => ?_
    refine ⟨_, rfl, wpAny_letOwnedTupleGo_zip (s := { s with heap := h' }) z' fun h'' z'' sb => ?_⟩
    have hT2 : h''.get? s.heap.objs.size = some { cls := .type "tuple", data := .seq #[u, u2] } := (sb.2 _ (Nat.ne_of_gt hzl)).trans hT
    have new : ObjOk X.prog X.w (upd H s.heap.objs.size (.tup [x, y])) h'' s.heap.objs.size (.tup [x, y]) :=
      ⟨by show 2 ≤ sizeLine; decide, [u, u2], .cons ru (.cons ru2 .nil), ⟨_, hT2, rfl, _, rfl⟩⟩
    have I1 : Inv X pins σ (upd H s.heap.objs.size (.tup [x, y])) { s with heap := h'' } :=
      I.turnedNew (t' := s.toks) (ch := [z, TI, TO, i1, i2]) (fun c o hb q => (sb.2 c (fun q' => hb (by simp [q']))).trans (hk c o (fun q' => hb (by simp [q'])) (fun q' => hb (by simp [q'])) (fun q' => hb (by simp [q'])) (fun q' => hb (by simp [q'])) q)) hf (Nat.le_refl _) new
    refine ⟨.ref s.heap.objs.size, _, I1, rfl, ⟨_, x, y, rfl, I.hok.fresh (Nat.le_refl _), rfl, fun l hl => by rw [I.list_inj hl hqx]; exact hx, fun l hl => by rw [I.list_inj hl hqy]; exact hy⟩, ⟨z'', ?_, ⟨u, u2, ?_⟩, ?_, ?_⟩, fun c hcm => ?_⟩
    · exact (sb.2 _ D.TIz).trans (hk _ _ D.TIz D.TITO D.TIi1 D.TIi2 hTI)
    · exact (sb.2 _ D.TOz).trans TO'
    · exact h1'.at fun o q => (sb.2 _ D.i1z).trans q
    · exact h2'.at fun o q => (sb.2 _ D.i2z).trans q
    · have hlt : c < s.heap.objs.size := by
        have e' : c = z ∨ c = TI ∨ c = TO ∨ c = i1 ∨ c = i2 := by simpa using hcm
        rcases e' with q | q | q | q | q
        · rw [q]; exact hzl
        · rw [q]; exact Heap.lt_size hTI
        · rw [q]; exact Heap.lt_size hTO
        · rw [q]; obtain ⟨_, e1, _⟩ := h1; exact Heap.lt_size e1
        · rw [q]; obtain ⟨_, e2, _⟩ := h2; exact Heap.lt_size e2
      rw [upd_ne (Nat.ne_of_lt hlt)]
      exact (hf c hcm).1
  done := by
    intro X hP hw hK hc i pins s σ H E I hf st hg
    subst hP hw hK
    obtain ⟨hz, hTI, ⟨x0, y0, hTO⟩, h1, h2⟩ := st
    obtain ⟨xs, ys, hqx, hqy, hend⟩ := hg
    obtain ⟨its, rv, p, _⟩ := I.list hqx
    obtain ⟨its2, rv2, p2, _⟩ := I.list hqy
    have l1 := rv.length
    have l2 := rv2.length
    have he : its.toArray[i]? = none ∨ its2.toArray[i]? = none := by
      rcases hend with q | q
      · exact .inl (by simp; omega)
      · exact .inr (by simp; omega)
    obtain ⟨x1, hot, hne⟩ := hc.at2 I hf
    exact fo_pyNext_zip_end hot (hne z (by simp)) (hne TO (by simp)) (hne i1 (by simp)) (hne i2 (by simp)) D hz hTI hTO h1 h2 p.isList p2.isList he fun h' hk => ⟨rfl, I.turnedL (t' := s.toks) (ch := [z, TI, TO, i1, i2]) (fun c o hb q =>
      hk c o (fun q' => hb (by simp [q'])) (fun q' => hb (by simp [q'])) (fun q' => hb (by simp [q'])) (fun q' => hb (by simp [q'])) q) hf⟩
  self := fun A i s Q E st h => wpAny_pyIter_zip st.1 h
theorem pi_zipH {X : Cx} {e e2 : Expr} {ta : TA} {p pos tpos : Pos} {elts : List Expr} {kk : Nat} (hg : Gl X "zip") (hm : X.mg "zip" = none) (ha : PA X [e, e2] ta)
    (hs : starEach [e, e2] X.env = (false, eval e X.env) :: starEach [e2] X.env) (hpl : (backTo pos (starEach [e2] X.env)).any (·.1) = false) :
    PIH X (.Tuple elts kk tpos) (.Call (.Name "zip" p) [e, e2] [] pos) (iZip X.K ta) := by
  refine ⟨fun pins s σ H R I h => ?_⟩
  refine Call_ (ld_blt I hg hm PyProof.Rows.boot_zip (PyProof.Rows.callWith_type1 (thn (ha.run pos pins s σ H _ I h) fun us s1 ⟨vs, H1, I1, r1, q1⟩ => ?_) hs hpl))
  obtain ⟨a, b, xs, ys, ex, hqx, hqy, q⟩ := q1
  subst ex
  cases r1 with
  | cons r rr =>
    cases rr with
    | cons r' rr =>
      cases rr
      cases r
      cases r'
      obtain ⟨its, rv, p1, _⟩ := I1.list hqx
      obtain ⟨its2, rv2, p2, _⟩ := I1.list hqy
      have la : a < s1.heap.objs.size := p1.lt
      have lb : b < s1.heap.objs.size := p2.lt
      refine call_zip_2 p1.isList p2.isList fun h' hz hTI hTO h1 h2 hsz hk => wpAny_pyIter_zip hz ?_
      have I2 : Inv X pins σ H1 { s1 with heap := h' } := I1.kept (t' := s1.toks) hk
      refine ⟨s1.heap.objs.size + 4, [s1.heap.objs.size + 4, s1.heap.objs.size + 2, s1.heap.objs.size + 3, s1.heap.objs.size, s1.heap.objs.size + 1], _, _, H1, rfl, I2, turn_zipH (PySem.W.ktu_apart s1.heap.objs.size a b la lb), ⟨hz, hTI, ⟨_, _, hTO⟩, h1, h2⟩, fun c hcm => ?_, q⟩
      have e' : c = s1.heap.objs.size + 4 ∨ c = s1.heap.objs.size + 2 ∨ c = s1.heap.objs.size + 3 ∨ c = s1.heap.objs.size ∨ c = s1.heap.objs.size + 1 := by simpa using hcm
      have hle : s1.heap.objs.size ≤ c := by
        rcases e' with z | z | z | z | z
        · rw [z]; exact Nat.le_add_right _ _
        · rw [z]; exact Nat.le_add_right _ _
        · rw [z]; exact Nat.le_add_right _ _
        · rw [z]; exact Nat.le_refl _
        · rw [z]; exact Nat.le_add_right _ _
      exact I1.fpOk hle (I1.hok.fresh hle)
/-- (a, b, ..) = a tuple of that length -/
theorem pg_tupH {X : Cx} {es : List Expr} {k : Nat} {pos : Pos} {t : TGs} {n : Nat} (hc : HotC X) (h : PGs X es t)
    (hn : (assignEach es X.env).length = n) (hst : (assignEach es X.env).findIdx? (·.1) = none) : PG X (.Tuple es k pos) (gTup X.K n t) := by
  refine ⟨fun pins s σ H v u Q I r hw => ?_⟩
  obtain ⟨a, xs, e1, hq, hl, hw⟩ := hw
  subst e1
  cases r
  obtain ⟨its, rv, ht, hz⟩ := I.tuple hq
  obtain ⟨x1, hot⟩ := hc.at I
  refine fo_assign_tuple hot ht (by simp [hn, ← hl, rv.length]) hst fun h' hx => ?_
  have I1 : Inv X pins σ H { s with heap := h' } := I.kept (t' := s.toks) fun b o e => hx b o (Nat.ne_of_lt (Heap.lt_size e)) e
  exact h.run pins _ σ H xs _ Q I1 (by simpa using rv) hw
/-- a block's context that still knows the handled exception -/
abbrev blkH (X : Cx) (s : Shared) (H : Hp) (scope : Scope) (cenv : Env) (fp : List Addr) : Cx := (X.blk s H scope cenv fp).tr X.pn (fun _ _ => False)
theorem block_startH {X : Cx} {pins : List (Addr × Obj)} {σ : L2.St} {H : Hp} {s : Shared} {scope : Scope} {own : List (Str × Nat)} {fp : List Addr} (I : Inv X pins σ H s) (ok : BlkOk X.N X.env.scope scope own) (hN : X.N.Nodup) (hfp : ∀ b ∈ fp, FpOk X pins H b ∧ b < s.heap.objs.size) :
    Inv (blkH X s H scope (compEnvC scope (cellsFrom (s.heap.objs.size + 1) scope.names (cloFrom X.env.cells scope.names [])) s.heap.objs.size X.env) fp) [] (wipe σ (own.map (·.2))) H { s with heap := pushCells (s.heap.push { cls := .type "dict", data := .dict #[] }) scope.names } := by
  have J := block_start I ok hN hfp
  refine ⟨J.ok.toTry _ _, J.os, J.bare, J.base, J.loc, J.cell, J.free, J.freeC, fun p hp => ?_, J.hok, J.len⟩
  have hp : p ∈ X.pn := by rw [List.append_nil] at hp; exact hp
  obtain ⟨p1, p2, p3, p4, p5⟩ := I.pin p (List.mem_append_left _ hp)
  refine ⟨pushCells_keeps _ _ _ _ (Heap.get?_push_of_some _ p1), p2, Nat.ne_of_lt (Heap.lt_size p1), fun z => ?_, p5⟩
  rcases List.mem_cons.mp (I.stkSub p.1 z) with y | y
  · exact p3 y
  · exact p4 y
end L2H

set_option Elab.async false
set_option linter.all false
set_option maxRecDepth 100000
set_option maxHeartbeats 4000000
/-! SemH3: a list comprehension while an exception is handled (its steps follow HandS.Comp). -/
namespace L2H
open PySem PySem.Spec PyProof.Rows L2 HotX
theorem lc_coreH {X : Cx} {pins : List (Addr × Obj)} {s : Shared} {σ : L2.St} {H : Hp} {Q : VK} {elt tg iter : Expr} {ifs : List Expr} {scope : Scope} {own : List (Str × Nat)} {pos pos' : Pos} {wi : TI} {g : TG} {tt : TT} {te : TE} {use : Option (Value → Sem Unit)} {Qf : Value → Shared → Prop}
    (hc : HotC X) (hN : X.N.Nodup) (I : Inv X pins σ H s) (hi : PIH X tg iter wi) (ok : BlkOk X.N X.env.scope scope own)
    (hg : ∀ (s : Shared) (H : Hp) (C : Addr) (cl : List (Str × Addr)) (fp : List Addr), PG (blkH X s H scope (compEnvC scope cl C X.env) fp) tg g) (ht : ∀ (s : Shared) (H : Hp) (C : Addr) (cl : List (Str × Addr)) (fp : List Addr), PTs (blkH X s H scope (compEnvC scope cl C X.env) fp) ifs tt)
    (he : ∀ (s : Shared) (H : Hp) (C : Addr) (cl : List (Str × Addr)) (fp : List Addr), PE (blkH X s H scope (compEnvC scope cl C X.env) fp) elt te) (hs : ∀ x, foldedSetIterable iter X.env x = pure x)
    (h : tLc wi g tt te (own.map (·.2)) σ H Q)
    (hRR : ∀ D C s' m H', Inv X pins σ H' s' → Q (.ref D) H' → s'.heap.Ns C m → FpOk X pins H' C → compPost (model X.prog X.w) X.A X.xe use Qf (.ref D) C (.ok .next) s') :
    wpAny (model X.prog X.w) X.A (comprehension (.ListComp elt [⟨tg, iter, ifs, 0⟩] scope pos) scope X.env pos' (newList []) false (eval iter X.env) use) Qf X.xe s := by
  have hfree : ∀ y ∈ scope.names, y.2 = .free → ∃ c, X.env.cells.lookup y.1 = some c := fun y hy e => by
    rcases ok.free y hy e with k | k
    · exact I.ok.has _ (.inl k)
    · exact I.ok.has _ (.inr k)
  refine wpAny_comprehension_free (use := use) rfl hs (closure_ok hfree) ok.kind (fun y hy e => by rw [ok.uniq y hy, e])
    (thn (hi.run pins s σ H _ I h) fun xv s1 hx => thn hx fun itv s2 h2 => ?_)
  obtain ⟨it, fp, tn, J, H2, e, I2, T, st2, f2, q⟩ := h2
  subst e
  refine wpAny_newObj_type (newEnv_comp ?_) (by show 0 ≤ sizeLine; decide)
  generalize hD : s2.heap.objs.size = D
  have hDn : H2 D = none := I2.hok.fresh (Nat.le_of_eq hD)
  obtain ⟨W, ⟨m0, w0⟩, turn⟩ := q D hDn
  -- the new list
  generalize hs3 : ({ s2 with heap := s2.heap.push { cls := .type "list", data := .seq ([] : List Value).toArray } } : Shared) = s3
  have I3 : Inv X pins σ (upd H2 D (.lst [])) s3 := by
    rw [← hs3]
    refine I2.laid (t' := s2.toks) (fun b o e => Heap.get?_push_of_some _ e) (Nat.le_of_eq hD) ⟨Nat.zero_le _, [], 0, .nil, ?_⟩
    rw [← hD]
    exact Heap.get?_push_size _ rfl
  have h3 : s3.heap = s2.heap.push { cls := .type "list", data := .seq ([] : List Value).toArray } := by rw [← hs3]
  have sz : ∀ b ∈ fp, b < s2.heap.objs.size := fun b hb => by
    obtain ⟨o, e, _⟩ := T.obj _ _ st2 b hb
    exact Heap.lt_size e
  have f3 : ∀ b ∈ fp, FpOk X pins (upd H2 D (.lst [])) b ∧ b < s3.heap.objs.size := fun b hb => by
    have hlt := sz b hb
    refine ⟨⟨?_, (f2 b hb).2⟩, by rw [h3, Heap.size_push]; exact Nat.lt_succ_of_lt hlt⟩
    rw [upd_ne (by rw [← hD]; exact Nat.ne_of_lt hlt)]
    exact (f2 b hb).1
  have st3 : tn 0 s3.heap := T.keep _ _ _ st2 fun b _ o e => by rw [h3]; exact Heap.get?_push_of_some _ e
  have I4 := block_startH I3 ok hN f3
  have pg := hg s3 (upd H2 D (.lst [])) s3.heap.objs.size (cellsFrom (s3.heap.objs.size + 1) scope.names (cloFrom X.env.cells scope.names [])) fp
  have pt := ht s3 (upd H2 D (.lst [])) s3.heap.objs.size (cellsFrom (s3.heap.objs.size + 1) scope.names (cloFrom X.env.cells scope.names [])) fp
  have pe := he s3 (upd H2 D (.lst [])) s3.heap.objs.size (cellsFrom (s3.heap.objs.size + 1) scope.names (cloFrom X.env.cells scope.names [])) fp
  show codeAny _ _ (.compStart (.ListComp elt [⟨tg, iter, ifs, 0⟩] scope pos) 0 (.ref it) (.ref D) (compEnvC scope (cellsFrom (s3.heap.objs.size + 1) scope.names (cloFrom X.env.cells scope.names [])) s3.heap.objs.size X.env)) (compPost (model X.prog X.w) X.A X.xe use Qf (.ref D) s3.heap.objs.size) { s3 with heap := pushCells (s3.heap.push { cls := .type "dict", data := .dict #[] }) scope.names }
  have nfp : ∀ b ∈ fp, (upd H2 D (.lst [])) b = none := fun b hb => (f3 b hb).1.1
  generalize hce : compEnvC scope (cellsFrom (s3.heap.objs.size + 1) scope.names (cloFrom X.env.cells scope.names [])) s3.heap.objs.size X.env = ce at I4 pg pt pe ⊢
  have cL : ce.locals = s3.heap.objs.size := by subst hce; rfl
  generalize hH3 : upd H2 D (.lst []) = H3 at I3 I4 pg pt pe w0 nfp f3
  generalize hs4 : ({ s3 with heap := pushCells (s3.heap.push { cls := .type "dict", data := .dict #[] }) scope.names } : Shared) = s4 at I4 ⊢
  have st4 : tn 0 s4.heap := T.keep _ _ _ st3 fun b _ o e => by rw [← hs4]; exact pushCells_keeps _ _ _ _ (Heap.get?_push_of_some _ e)
  have stat : ∀ {σ' : St} {H' : Hp} {s' : Shared}, Inv (blkH X s3 H3 scope ce fp) [] σ' H' s' → (∀ b ∈ fp, H' b = none) → ∀ b ∈ fp, FpOk (blkH X s3 H3 scope ce fp) [] H' b := fun {σ' H' s'} I' hn b hb =>
    ⟨hn b hb, (I'.ok.exf b hb).1, I'.ok.exfs b hb, .inl hb, fun x c e => (I'.ok.exf b hb).2 x c e, fun p hp => (f3 b hb).1.2.2.2.2.2 p (List.mem_append_left _ (show p ∈ X.pn from by rw [List.append_nil] at hp; exact hp))⟩
  have hcB : HotC (blkH X s3 H3 scope ce fp) := by
    obtain ⟨p, h1, h2⟩ := hc
    exact ⟨p, h1, h2⟩
  have loop : codeAny (model X.prog X.w) X.A (.compLoop (.ListComp elt [⟨tg, iter, ifs, 0⟩] scope pos) 0 (.ref it) (.ref D) ce) (compPost (model X.prog X.w) X.A X.xe use Qf (.ref D) s3.heap.objs.size) s4 := by
    refine compLoop_any (fun n s' => ∃ i H', Inv (blkH X s3 H3 scope ce fp) [] (wipe σ (own.map (·.2))) H' s' ∧ tn i s'.heap ∧ (∀ b ∈ fp, H' b = none) ∧ W i n H') ?_ m0 ⟨0, H3, I4, st4, nfp, w0⟩
    rintro n s5 ⟨i, H5, I5, st5, n5, w5⟩
    rcases turn i n H5 w5 with ⟨stop, qq⟩ | ⟨go, Nx, hNx, step⟩
    · have td := T.done (blkH X s3 H3 scope ce fp) rfl rfl rfl hcB i [] s5 _ H5 (fun _ _ => False) I5 (stat I5 n5) st5 stop
      refine thnF td fun r s6 ⟨hr, I6⟩ => ?_
      subst hr
      -- back in the def's context
      have I7 : Inv X pins σ H5 s6 := I3.call' (ch := fp) I6.os I6.base I6.hok I6.bare fun b hb => ⟨(f3 b hb).1.2.2.2.1, (f3 b hb).1.2.1, (f3 b hb).1.2.2.2.2.1, (f3 b hb).1.2.2.2.2.2⟩
      have nC : H5 s3.heap.objs.size = none := by
        have z : H5 ce.locals = none := I6.free
        rw [cL] at z
        exact z
      obtain ⟨m, hn, _⟩ := I6.loc
      have hn : s6.heap.Ns ce.locals m := hn
      rw [cL] at hn
      exact hRR D s3.heap.objs.size s6 m H5 I7 qq hn (I3.fpOk (Nat.le_refl _) nC)
    · have ti := T.item (blkH X s3 H3 scope ce fp) rfl rfl rfl hcB i [] s5 _ H5 (fun _ _ => False) I5 (stat I5 n5) st5 go
      refine thnF ti fun r s6 ⟨u, hr, h6⟩ => ?_
      subst hr
      refine thnF h6 fun _ s7 ⟨x, H7, I7, r7, y7, st7, n7⟩ => ?_
      have I7' := I7.pinned (stat I7 n7) (T.obj _ _ st7)
      refine thnF (pg.run _ s7 _ H7 x u _ I7' r7 (step x H7 y7)) fun _ s8 ⟨σ8, H8, I8, hw8, q8⟩ => ?_
      refine thnF (pt.run _ s8 σ8 H8 _ I8 q8) fun b s9 ⟨H9, I9, q9⟩ => ?_
      -- the turn's end
      have fin : ∀ {s' : Shared} {H' : Hp}, Inv (blkH X s3 H3 scope ce fp) ([] ++ pinsAt fp s7.heap) σ8 H' s' → Nx H' → ∃ m, m < n ∧ ∃ i H', Inv (blkH X s3 H3 scope ce fp) [] (wipe σ (own.map (·.2))) H' s' ∧ tn i s'.heap ∧ (∀ b ∈ fp, H' b = none) ∧ W i m H' := fun {s' H'} I' nx => by
        obtain ⟨m', hm, w'⟩ := hNx H' nx
        have pin' : ∀ b ∈ fp, ∀ o, s7.heap.get? b = some o → s'.heap.get? b = some o ∧ H' b = none := fun b hb o e =>
          let z := I'.pin (b, o) (List.mem_append_right _ (List.mem_append_right _ (mem_pinsAt hb e)))
          ⟨z.1, z.2.1⟩
        have hl : (wipe σ (own.map (·.2))).length = σ8.length := by rw [← hw8, wipe_length]
        refine ⟨m', hm, i + 1, H', (I'.unpinned (pins := [])).weak hl (fun j v e => ?_), T.keep _ _ _ st7 fun b hb o e => (pin' b hb o e).1, fun b hb => ?_, w'⟩
        · rw [← hw8] at e
          exact (wipe_some e).1
        · obtain ⟨o, e, _⟩ := T.obj _ _ st7 b hb
          exact (pin' b hb o e).2
      cases b with
      | false =>
        simp only [Bool.false_eq_true, if_false] at q9 ⊢
        exact fin I9 q9
      | true =>
        simp only [if_true] at q9 ⊢
        refine thnF (pe.run _ s9 σ8 H9 _ I9 q9) fun z s10 ⟨yv, H10, I10, r10, acc, hD10, hz10, nx⟩ => ?_
        exact app_ok (X := blkH X s3 H3 scope ce fp) I10 hD10 hz10 r10 fun s11 I11 => fin I11 nx
  exact codeAny_compStart_list loop (T.self X.A 0 _ _ _ st4 loop)
theorem pe_lcH {X : Cx} {elt tg iter : Expr} {ifs : List Expr} {scope : Scope} {own : List (Str × Nat)} {pos : Pos} {wi : TI} {g : TG} {tt : TT} {te : TE} (hc : HotC X) (hN : X.N.Nodup) (hi : PIH X tg iter wi) (ok : BlkOk X.N X.env.scope scope own)
    (hg : ∀ (s : Shared) (H : Hp) (C : Addr) (cl : List (Str × Addr)) (fp : List Addr), PG (blkH X s H scope (compEnvC scope cl C X.env) fp) tg g) (ht : ∀ (s : Shared) (H : Hp) (C : Addr) (cl : List (Str × Addr)) (fp : List Addr), PTs (blkH X s H scope (compEnvC scope cl C X.env) fp) ifs tt)
    (he : ∀ (s : Shared) (H : Hp) (C : Addr) (cl : List (Str × Addr)) (fp : List Addr), PE (blkH X s H scope (compEnvC scope cl C X.env) fp) elt te) (hs : ∀ x, foldedSetIterable iter X.env x = pure x) :
    PE X (.ListComp elt [⟨tg, iter, ifs, 0⟩] scope pos) (tLc wi g tt te (own.map (·.2))) := by
  refine ⟨fun pins s σ H Q I h => ?_⟩
  rw [eval_ListComp]
  refine lc_coreH hc hN I hi ok hg ht he hs h fun D C s' m H' I' q hn f => ⟨m, hn, fun h'' sb => ?_⟩
  obtain ⟨f0, f1, f2, f3, f4, f5⟩ := f
  exact ⟨.ref D, H', I'.turned (t' := s'.toks) (fun b o hb e => (sb.2 b hb).trans e) f0 f1 f3 f4 f5, rfl, q⟩
end L2H

set_option Elab.async false
set_option linter.all false
set_option maxRecDepth 100000
set_option maxHeartbeats 4000000
/-! SemH4b: a def called within an except suite, its promise told of the handled exception's object (after HandS.HotCalls). -/
namespace L2H
open PySem PySem.Spec PyProof.Rows L2 HotX
structure FnHp (P : Program) (w : World) (K : PySem.W.Frag) (mg : Str → Option Value) (base : Heap) (CX : CXT) (k : Nat) (f : Addr) (fd : FuncData) (ps : List Str) (sp : Addr × Obj → Sp) : Prop where
  len : ∀ p vs H Q E, sp p vs H Q E → vs.length = ps.length
  run : ∀ (A : Around) (outer : List Env) (s : Shared) (H : Hp) (args : Args) (us : List Value) (vs : List V) (Q : VK) (E : XK) (p : Addr × Obj), RoomH k A → Hot1 A p → PinOk outer H s p → Env0 P w K mg base A outer s H → BindsTo s fd args (ps.zip us) → Vals vs us → sp p vs H Q E →
    codeAny (model P w) A (.call (.ref f) args) (CR CX outer P w H s Q E) s
theorem fn_ofHp {CX : CXT} {P : Program} {w : World} {K : PySem.W.Frag} {mg : Str → Option Value} {base : Heap} {k : Nat} {f : Addr} {name qual : Str} {params : Arguments} {body : List Stmt} {scope : Scope} {dV kV doc pm cdv ct oc : Value} {an od : Option Addr}
    {osl : Array (Option Value)} {N ps : List Str} {sp : Addr × Obj → Sp} (lk : K.lookup f = some ⟨oc, od, .func (PySem.W.fnOf name qual params body scope dV kV doc pm an cdv ct), osl⟩) (hcd : PySem.W.codeIn K cdv qual = true) (S : FnScope N ps scope)
    (len : ∀ p vs H Q E, sp p vs H Q E → vs.length = ps.length)
    (hbody : ∀ (A : Around) (outer : List Env) (s : Shared) (H : Hp) (vs : List V) (Q : VK) (E : XK) (p : Addr × Obj), Hot1 A p → RoomH k (A.deeper (envOfC qual scope s.heap.objs.size f cdv)) → sp p vs H Q E →
      ∃ t, PSs (cxH CX P w K mg base N qual scope f cdv A outer s H E p) body t ∧ t { nx := fun _ H' => Q .non H', rt := Q } (L2.start N vs) H) :
    FnHp P w K mg base CX (k + 1) f (PySem.W.fnOf name qual params body scope dV kV doc pm an cdv ct) ps sp := by
  refine ⟨len, fun A outer s H args us vs Q E p hr hot hpin e0 hb r hsp => ?_⟩
  have hl := len _ _ _ _ _ hsp
  have KX : K.In s.heap := e0.mod.kin.keeps fun b o e => (e0.bs b o e).1
  have lim : s.heap.NoLimit := e0.mod.nolimit.keeps fun b o e => (e0.bs b o e).1
  have hkind : ∀ y ∈ ps.zip us, scope.names.lookup y.1 = some .local ∨ (scope.names.lookup y.1 = some .cell ∧ ((cellsFrom (s.heap.objs.size + 1) scope.names []).lookup y.1).isSome = true) := fun ⟨n, v⟩ hy => by
    rcases S.par n (List.of_mem_zip hy).1 with q | q
    · exact .inl q
    · exact .inr ⟨q, PySem.W.cellsFrom_some _ _ _ (.inl q)⟩
  refine codeAny_call_function hr.depth (KX _ _ lk) rfl S.co S.gen rfl (PySem.W.codeRec_of KX hcd) (hb _ _ _ _ ?_)
  refine wpAny_newFunctionEnv_cells S.kind hkind fun env he s1 x => ?_
  subst he
  refine ⟨lim.keeps x.toInCall.keep, codeAny_func ?_⟩
  obtain ⟨t, ht, hq⟩ := hbody A outer s H vs Q E p hot (hr.deeper _) hsp
  have I : Inv (cxH CX P w K mg base N qual scope f cdv A outer s H E p) [] (L2.start N vs) H s1 := inv_startH S hpin e0 hl r x
  refine wpAny_mono (ht.run [] s1 (L2.start N vs) H _ I hq) (fun fl s' hs => ?_) fun e s' hs => hs
  have fin : ∀ {σ' : St} {H' : Hp} {v : V} {u : Value}, Inv (cxH CX P w K mg base N qual scope f cdv A outer s H E p) [] σ' H' s' → RelV v u → Q v H' → CE outer P w H s Q u s' :=
    fun {σ' H' v u} J rv q => ⟨v, H', J.os, J.bare, J.base, J.hok, rv, q⟩
  cases fl with
  | ret u =>
    obtain ⟨v, σ', H', J, rv, q⟩ := hs
    exact fin J rv q
  | next =>
    obtain ⟨σ', H', J, q⟩ := hs
    exact fin (v := V.non) (u := Value.none) J rfl q
  | brk =>
    obtain ⟨_, _, _, q⟩ := hs
    exact False.elim q
  | cont =>
    obtain ⟨_, _, _, q⟩ := hs
    exact False.elim q

/-! ### calls -/
section
variable {X : Cx} {CX : CXT} {k : Nat} {f C : Addr} {fd : FuncData} {ps : List Str} {sp : Addr × Obj → Sp} {E : L2.St → XK} {x m : Str} {q pos apos : Pos} {e o : Expr} {es : List Expr} {ta : TE} {t : TA}
theorem run_fnHp {pins : List (Addr × Obj)} {σ : St} {H : Hp} {s : Shared} {Q : VK} {us : List Value} {vs : List V} (F : FnHp X.prog X.w X.K X.mg X.base CX k f fd ps sp) (hr : RoomH k X.A) {p : Addr × Obj} (hot : Hot1 X.A p) (hp : p ∈ X.pn) (hb : Binds X.K fd ps []) (hx : PassesAt CX X σ (E σ))
    (I : Inv X pins σ H s) (r : Vals vs us) (h : sp p vs H Q (E σ)) : wpAny (model X.prog X.w) X.A (call (.ref f) us) (EP X pins σ Q) X.xe s := by
  have hl : us.length = ps.length := by rw [← r.length]; exact F.len _ _ _ _ _ h
  have b := hb s us I.kIn (by rw [List.append_nil]; exact hl)
  rw [List.append_nil] at b
  have P1 := I.pin p (List.mem_append_left _ hp)
  have hpin : PinOk X.stack H s p := ⟨P1.1, P1.2.1, fun hm => (List.mem_cons.mp (I.stkSub p.1 hm)).elim P1.2.2.1 P1.2.2.2.1, P1.2.2.2.2⟩
  refine wpAny_call (codeAny_mono (F.run X.A X.stack s H ⟨us, []⟩ us vs Q (E σ) p hr hot hpin I.env0 b r h) fun r s' hq => ?_)
  cases r with
  | error e => exact hx pins H s e s' I hq
  | ok fl =>
    cases fl with
    | ret u => exact I.after hq
    | next => exact False.elim hq
    | brk => exact False.elim hq
    | cont => exact False.elim hq
theorem pe_callHp (F : FnHp X.prog X.w X.K X.mg X.base CX k f fd ps sp) (hr : RoomH k X.A) {p : Addr × Obj} (hot : Hot1 X.A p) (hp : p ∈ X.pn) (hg : Gl X x) (hm : X.mg x = some (.ref f)) (hk : PySem.W.keepIn X.K (.ref f) = true) (hb : Binds X.K fd ps []) (hx : ∀ σ, PassesAt CX X σ (E σ))
    (ha : PA X (e :: es) t) (hdb : (x == ("__debug__" : Str)) = false := by decide) (he : starEach (e :: es) X.env = (false, eval e X.env) :: starEach es X.env := by rfl) (hpl : (backTo pos (starEach es X.env)).any (·.1) = false := by rfl) :
    PE X (.Call (.Name x q) (e :: es) [] pos) (tCallS (sp p) E t) := by
  refine ⟨fun pins s σ H Q I h => ?_⟩
  refine wpAny_Call_Name_kw (ld_glob I hg hm ?_ hdb)
  refine PySem.W.callWith_K (h₀ := X.base) I.ok.mod.kin hk (thn (ha.run pos pins s σ H _ I h) fun us s1 ⟨vs, H1, I1, r, q⟩ => ⟨I1.kIn, ?_⟩) he hpl
  exact run_fnHp F hr hot hp hb (hx σ) I1 r q
end
end L2H

set_option Elab.async false
set_option linter.all false
set_option maxRecDepth 100000
set_option maxHeartbeats 4000000
/-! SemH4: the helper that names an exception, while that exception is handled. -/
namespace Fo
open PySem L2 LamX PyProof.Rows L2H HotX

def bls : List Bool → Ex
  | [] => .nil
  | b :: r => .cons (.cst (.bool b)) (bls r)
/-- the tested classes, by name and value -/
def ClsV (mg : Str → Option Value) (c : Str) (cv : Value) : Prop := (mg c = some cv ∧ ∃ C, cv = .ref C) ∨ (mg c = none ∧ c = ("ValueError" : Str) ∧ cv = .type "ValueError")
/-- isinstance(e, c), e an exception that stands pinned -/
theorem fo_isE {X : Cx} {a D : Addr} {oe : Obj} (C : ExcC X.K D) (hp : (a, oe) ∈ X.pn) (hz : Zc (.ref D) none oe) (hf : ∃ vs, oe.data = .fields vs) : CallR X (.builtin "isinstance") (rIsE X.K D a) := by
  intro pins s σ H xs us Q I r h
  obtain ⟨c, cv, b, rfl, hcv, e, q⟩ := h
  cases r with
  | cons rx rr =>
    cases rr with
    | cons rt rr =>
      cases rr
      cases rx
      have ec := hcv _ rt
      subst ec
      obtain ⟨hget, _⟩ := I.pin (a, oe) (List.mem_append.mpr (.inl hp))
      obtain ⟨vs, hv⟩ := hf
      have J : PySem.W.InstAt s.heap a oe D none := by
        obtain ⟨oc, od, oda, osl⟩ := oe
        obtain ⟨h1, h2⟩ := hz
        dsimp only at h1 h2 hv
        subst h1 h2 hv
        exact ⟨hget, rfl, rfl, trivial⟩
      exact PySem.W.kia_one (PySem.W.handS_kitx_exc C.hg C.hk C.hs C.hd C.ha C.hn C.ht C.hm) I.kIn J e (fun z => nomatch z) fun tk => ⟨.bl b, H, I.kept (t' := tk) fun _ _ z => z, rfl, q⟩
/-- what the hot context is -/
structure HotX' (Tb : Tbs) (X : Cx) (N : List Str) (sc : Scope) (a D : Addr) (oe : Obj) : Prop where
  hot : HotC X
  pn : (a, oe) ∈ X.pn
  z : Zc (.ref D) none oe
  f : ∃ vs, oe.data = .fields vs
  C : ExcC X.K D
  names : X.N = N
  nd : X.N.Nodup
  sc : X.env.scope = sc
  fnT : ∀ x, X.fn x = true
  isi : X.mg "isinstance" = none
  zip : X.mg "zip" = none
def isiC (N : List Str) (sc : Scope) (c : Str) : Expr → Bool
  | .Call (.Name x _) [e, .Name y _] [] _ => decide (x = ("isinstance" : Str)) && nameOk sc x && slN N sc 0 e && decide (y = c) && ckG sc y y
  | _ => false
def isiL (N : List Str) (sc : Scope) : List Str → List Expr → Bool
  | [], [] => true
  | c :: cs, e :: es => isiC N sc c e && isiL N sc cs es
  | _, _ => false
section
variable {Tb : Tbs} {X : Cx} {N : List Str} {sc : Scope} {a D : Addr} {oe : Obj} {C : Ctx} {W : XW}
/-- its slot 0 holds the exception -/
def tE0 (a : Addr) (K : PySem.W.Frag) (T : Tbs) (W : XW) (ms : Nat → Bool) (f : Rho → R (PyData × Rho)) : TE := fun σ H Q => σ[0]? = some (some (.ref a)) ∧ tE K T W ms f σ H Q
theorem h_isi (G : HotX' Tb X N sc a D oe) {c : Str} {cv : Value} {b : Bool} {e : Expr} (hc : ClsV X.mg c cv) (hb : PySem.W.kitOne X.K (.ref D) cv = some b) (h : isiC N sc c e = true) (m : Nat → Bool) :
    PE X e (tE0 a X.K Tb W m (evE C (.cst (.bool b)))) ∧ noStar e = true := by
  unfold isiC at h
  split at h
  · rename_i x p1 e y0 p2 p3
    simp only [Bool.and_eq_true, decide_eq_true_eq] at h
    obtain ⟨⟨⟨⟨h1, h2⟩, h3⟩, h4⟩, h5⟩ := h
    subst h1
    rw [h4] at h5 ⊢
    obtain ⟨_, e2, e3, e4⟩ := gl_of G.sc h2
    obtain ⟨_, f2, f3, f4⟩ := gl_of G.sc h5
    obtain ⟨y, p, rfl, g1, g2, g3, g4⟩ := slN_of G.sc G.names h3
    have key : ∀ v, RelV v cv → (∀ u, RelV v u → u = cv) → PE X (.Name c p2) (tC v) → PE X (.Call (.Name "isinstance" p1) [.Name y p, .Name c p2] [] p3) (tE0 a X.K Tb W m (evE C (.cst (.bool b)))) := fun v r1 r2 hv =>
      (pe_callB (X := X) (fo_isE G.C G.pn G.z G.f) e2 G.isi boot_isinstance (pa_cons (pe_var (pos := p) g1 g2 g3 g4) (pa_cons hv pa_nil) (star_cons rfl _ X.env)) e4 e3 (star_cons rfl _ X.env) rfl).weaken (t' := tE0 a X.K Tb W m (evE C (.cst (.bool b)))) fun σ H Q ⟨h0, ρ, k, w, q⟩ => by
        have ev : evE C (.cst (.bool b)) ρ = .ok (.bool b, ρ) := by rw [evE]
        rw [ev] at q
        exact ⟨_, h0, v, cv, b, rfl, r2, hb, pG_ok q w _ (.bl b)⟩
    refine ⟨?_, rfl⟩
    rcases hc with ⟨hm, Ca, rfl⟩ | ⟨hm, hn, rfl⟩
    · exact key (.ref Ca) rfl (fun u r => r) (pe_glob f2 hm rfl f3)
    · exact key (.ty "ValueError") rfl (fun u r => r) (pe_bltn f2 hm (by rw [hn]; exact boot_ValueError) rfl f4 f3)
  · cases h
def tA0 (a : Addr) (K : PySem.W.Frag) (T : Tbs) (W : XW) (ms : Nat → Bool) (f : Rho → R (List PyData × Rho)) : TA := fun σ H Q => σ[0]? = some (some (.ref a)) ∧ tA K T W ms f σ H Q
theorem h_isl (G : HotX' Tb X N sc a D oe) (m : Nat → Bool) : ∀ {cs : List Str} {cvs : List Value} {bs : List Bool} {es : List Expr}, (∀ (i : Nat) (c : Str) (cv : Value) (b : Bool), cs[i]? = some c → cvs[i]? = some cv → bs[i]? = some b → ClsV X.mg c cv ∧ PySem.W.kitOne X.K (.ref D) cv = some b) →
    cs.length = cvs.length → cs.length = bs.length → isiL N sc cs es = true → PA X es (tA0 a X.K Tb W m (evA C (bls bs)))
  | [], [], [], [], _, _, _, _ => by
    refine pa_nil.weaken fun σ H Q ⟨h0, ρ, k, w, q⟩ => ?_
    have ev : evA C (bls []) ρ = .ok ([], ρ) := by show evA C .nil ρ = _; rw [evA]
    rw [ev] at q
    exact pG_ok q w _ .nil
  | c :: cs, cv :: cvs, b :: bs, e :: es, hh, h1, h2, h3 => by
    unfold isiL at h3
    rw [Bool.and_eq_true] at h3
    obtain ⟨q1, q2⟩ := hh 0 c cv b rfl rfl rfl
    obtain ⟨k1, k2⟩ := h_isi (C := C) (W := W) (Tb := Tb) G q1 q2 h3.1 m
    have k3 := h_isl G m (cs := cs) (cvs := cvs) (bs := bs) (es := es) (fun i c cv b a1 a2 a3 => hh (i + 1) c cv b a1 a2 a3) (by simpa using h1) (by simpa using h2) h3.2
    refine (pa_cons k1 k3 (star_cons k2 es X.env)).weaken fun σ H Q ⟨h0, ρ, k, w, q⟩ => ⟨h0, ρ, k, w, ?_⟩
    have ev1 : evE C (.cst (.bool b)) ρ = .ok (.bool b, ρ) := by rw [evE]
    have ev2 : evA C (bls (b :: bs)) ρ = (evA C (bls bs) ρ).bind fun (xs, ρ2) => .ok (.bool b :: xs, ρ2) := by show evA C (.cons _ _) ρ = _; rw [evA, ev1]; rfl
    rw [ev1]
    rw [ev2] at q
    intro k1 H1 t1 w1 v hv
    refine ⟨h0, ρ, k1, w1, pG_mono (pG_bind (pG_step q t1)) (fun _ z => z) fun ds ρ2 k2 H2 t2 w2 g vs hvs => ?_⟩
    exact pG_ok g w2 _ (.cons (dp_mono t2.kk hv) hvs)
  | [], _ :: _, _, _, _, h, _, _ => by cases h
  | [], [], _ :: _, _, _, _, h, _ => by cases h
  | [], [], [], _ :: _, _, _, _, h => by cases h
  | _ :: _, [], _, _, _, h, _, _ => by cases h
  | _ :: _, _ :: _, [], _, _, _, h, _ => by cases h
  | _ :: _, _ :: _, _ :: _, [], _, _, _, h => by cases h
end
end Fo

set_option Elab.async false
set_option linter.all false
set_option maxRecDepth 100000
set_option maxHeartbeats 4000000
/-! SemH5: the body of the helper that names an exception. -/
namespace Fo
open PySem L2 LamX PyProof.Rows L2H HotX

def locN (N : List Str) (sc : Scope) (i : Nat) : Expr → Bool
  | .Name x _ => decide (N[i]? = some x) && isLoc sc x
  | _ => false
def strIs (s : Str) : Expr → Bool
  | .Constant (.str x) _ _ => decide (x = s)
  | _ => false
/-- ' '.join([w for w, g in zip(ws.split(' '), some) if g]) -/
def joinC (N : List Str) (sc : Scope) : Expr → Bool
  | .Call (.Attribute sp1 jn ap) [.ListComp el [⟨.Tuple [t1, t2] tk tp, .Call (.Name zn zp) [.Call (.Attribute v6 sn ap2) [sp2] [] cp2, v7] [] zq, [g3], 0⟩] scope lp] [] cp =>
    strIs " " sp1 && decide (jn = ("join" : Str)) && sameLn ap cp && decide (zn = ("zip" : Str)) && nameOk sc zn && slN N sc 2 v6 && decide (sn = ("split" : Str)) && sameLn ap2 cp2 && strIs " " sp2 && slN N sc 1 v7 &&
      blkC N sc scope [((N[3]?).getD "", 3), ((N[4]?).getD "", 4)] && locN N (relS scope sc) 3 t1 && locN N (relS scope sc) 4 t2 && slN N (relS scope sc) 4 g3 && slN N (relS scope sc) 3 el
  | _ => false
def addC (N : List Str) (sc : Scope) (cs : List Str) : Stmt → Bool
  | .Assign [t] (.BinOp v .Add (.List es _) _) _ => locN N sc 1 t && slN N sc 1 v && isiL N sc cs es
  | _ => false
def neC (N : List Str) (sc : Scope) (c1 c2 c3 c4 : List Str) (wd : Str) : List Stmt → Bool
  | [.Assign [t1] (.List es1 _) _, s2, s3, .Assign [t4] w4 _, s5, .Return (some r) _] =>
    isFn sc && locN N sc 1 t1 && isiL N sc c1 es1 && addC N sc c2 s2 && addC N sc c3 s3 && locN N sc 2 t4 && strIs wd w4 && addC N sc c4 s5 && joinC N sc r
  | _ => false
def joinX : Ex := .mth .join (.cst (.str " ")) (.cons (.lc (.cons (.name 3) (.cons (.name 4) .nil)) .zip (.cons (.mth .split (.var 2) (.cons (.cst (.str " ")) .nil)) (.cons (.var 1) .nil)) (.tru (.var 4)) (.var 3)) .nil)
def neX (b1 b2 b3 b4 : List Bool) (wd : Str) : Sx :=
  .seq (.set (.name 1) (.lst (bls b1))) (.seq (.set (.name 1) (.bin .add (.var 1) (.lst (bls b2)))) (.seq (.set (.name 1) (.bin .add (.var 1) (.lst (bls b3)))) (.seq (.set (.name 2) (.cst (.str wd))) (.seq (.set (.name 1) (.bin .add (.var 1) (.lst (bls b4)))) (.seq (.ret joinX) .skip)))))
section
variable {Tb : Tbs} {X : Cx} {N : List Str} {sc : Scope} {a D : Addr} {oe : Obj} {C : Ctx} {W : XW}
theorem locN_of {i : Nat} {e : Expr} (hs : X.env.scope = sc) (hN : X.N = N) (h : locN N sc i e = true) : ∃ x p, e = .Name x p ∧ X.N[i]? = some x ∧ X.env.scope.names.lookup x = some .local := by
  unfold locN at h
  split at h
  · rw [Bool.and_eq_true, decide_eq_true_eq] at h
    exact ⟨_, _, rfl, by rw [hN]; exact h.1, isLoc_of hs h.2⟩
  · cases h
theorem strIs_of {s : Str} {e : Expr} (h : strIs s e = true) : ∃ j p, e = .Constant (.str s) j p := by
  unfold strIs at h
  split at h
  · have := of_decide_eq_true h
    subst this
    exact ⟨_, _, rfl⟩
  · cases h
theorem h_str {s : Str} {e : Expr} (h : strIs s e = true) : PE X e (tE X.K Tb W (fun i => occ i (.cst (.str s))) (evE C (.cst (.str s)))) := by
  obtain ⟨j, p, rfl⟩ := strIs_of h
  exact s_cst (d := .str s) (by show decide (s = s) = true; exact decide_eq_true rfl) C
theorem h_var {i : Nat} {e : Expr} (hs : X.env.scope = sc) (hN : X.N = N) (h : slN N sc i e = true) : PE X e (tE X.K Tb W (fun j => occ j (.var i)) (evE C (.var i))) := by
  obtain ⟨x, p, rfl, h1, h2, h3, h4⟩ := slN_of hs hN h
  exact s_var h1 h2 h3 h4 C
/-- the list of the answers -/
theorem h_lst (G : HotX' Tb X N sc a D oe) {bs : List Bool} {es : List Expr} {pos : Pos} (h : PA X es (tA0 a X.K Tb W (fun i => occ i (.lst (bls bs))) (evA C (bls bs)))) :
    PE X (.List es pos) (tE0 a X.K Tb W (fun i => occ i (.lst (bls bs))) (evE C (.lst (bls bs)))) := by
  have e : evE C (.lst (bls bs)) = fun ρ => (evA C (bls bs) ρ).bind fun (xs, ρ1) => if xs.length ≤ line then .ok (.list xs, ρ1) else .bad := by funext ρ; rw [evE]
  refine (pe_lst h).weaken fun σ H Q ⟨h0, q⟩ => ?_
  rw [e] at q
  obtain ⟨ρ, k, w, q⟩ := f2e (lst_list lst_g) q
  refine ⟨h0, ρ, k, w, pG_mono (pG_bind q) (fun _ z => z) fun ds ρ1 k1 H1 t1 w1 h1 vs hvs => ?_⟩
  obtain ⟨hl, h1⟩ := pG_if h1
  refine ⟨by rw [line_eq, hvs.lenD]; exact hl, fun p hp => ?_⟩
  have px := Px.hide w1.sub hp (o := .lst vs)
  exact pG_okx h1 w1 px p (back_none t1 hp) (sub_none w1.sub hp) ⟨vs, upd_same, hvs⟩
/-- a store to a slot but the first -/
theorem h_set {i : Nat} {e : Expr} {x : Str} {p pos : Pos} {v : Expr} {xa : Ex} (G : HotX' Tb X N sc a D oe) (hf : isFn sc = true) (hN : X.N[i]? = some x) (hl : X.env.scope.names.lookup x = some .local) (hv : notComp v = true) (hi : i ≠ 0)
    (he : PE X v (tE0 a X.K Tb W (fun i => occ i xa) (evE C xa))) :
    PS X (.Assign [.Name x p] v pos) (fun D' σ H => σ[0]? = some (some (.ref a)) ∧ tS X.K Tb W true false (evS C (.set (.name i) xa)) D' σ H) := by
  have ev : evS C (.set (.name i) xa) = fun ρ => (evE C xa ρ).bind fun (x, ρ1) => (bindT (.name i) x ρ1).bind fun ρ2 => .ok (.next, ρ2) := by funext ρ; rw [evS]
  refine (ps_asg he (pg_name G.nd hN (.inl hl) (.inr hl)) (show swapsWith v (some (.Name x p)) pos.line X.env = _ from sw_comp hv) st_name rfl).weaken fun E σ H ⟨h0, q⟩ => ?_
  rw [ev] at q
  obtain ⟨ρ, k, w, q⟩ := q
  refine ⟨h0, ρ, k, w, pG_mono (pS_e q) (fun _ z => z) fun d ρ1 k1 H1 t1 w1 q1 u hu => ?_⟩
  dsimp only at q1
  obtain ⟨ρ2, e2, q2⟩ := pS_get q1 (fun c => bindT_noexc c)
  unfold bindT at e2
  by_cases hl : i < ρ1.length
  · rw [if_pos hl] at e2
    cases e2
    obtain ⟨w3, t3⟩ := set_slots (io := true) w1 hl hu (fun _ z => hi (List.mem_singleton.mp z).symm)
    exact pS_next q2 t3 w3
  · rw [if_neg hl] at e2; cases e2
theorem h_add (G : HotX' Tb X N sc a D oe) {bs : List Bool} {cs : List Str} {cvs : List Value} {st : Stmt} (hf : isFn sc = true) (hh : ∀ (i : Nat) (c : Str) (cv : Value) (b : Bool), cs[i]? = some c → cvs[i]? = some cv → bs[i]? = some b → ClsV X.mg c cv ∧ PySem.W.kitOne X.K (.ref D) cv = some b)
    (h1 : cs.length = cvs.length) (h2 : cs.length = bs.length) (h : addC N sc cs st = true) :
    PS X st (fun D' σ H => σ[0]? = some (some (.ref a)) ∧ tS X.K Tb W true false (evS C (.set (.name 1) (.bin .add (.var 1) (.lst (bls bs))))) D' σ H) := by
  unfold addC at h
  split at h
  · rename_i tt vv es lp bp ap
    simp only [Bool.and_eq_true] at h
    obtain ⟨⟨g1, g2⟩, g3⟩ := h
    obtain ⟨x, p, rfl, k1, k2⟩ := locN_of G.sc G.names g1
    refine h_set (e := .Name x p) G hf k1 k2 rfl (by decide) ?_
    have kv : PE X vv (tE X.K Tb W (fun j => occ j (.var 1)) (evE C (.var 1))) := h_var G.sc G.names g2
    have kl := h_lst (C := C) (W := W) (pos := lp) G (h_isl (C := C) (W := W) (Tb := Tb) G (fun i => occ i (.lst (bls bs))) hh h1 h2 g3)
    have e : evE C (.bin .add (.var 1) (.lst (bls bs))) = fun ρ => (evE C (.var 1) ρ).bind fun (x, ρ1) => (evE C (.lst (bls bs)) ρ1).bind fun (y, ρ2) => (ofOpt (binD .add x y)).bind fun z => .ok (z, ρ2) := by
      funext ρ
      conv => lhs; rw [evE]
    refine (pe_op (bin_ok .add) kv kl).weaken fun σ H Q ⟨h0, q⟩ => ?_
    rw [e] at q
    obtain ⟨ρ, k, w, q⟩ := q
    refine ⟨ρ, k, w, pG_mono (pG_bind q) (fun i z => by show (occ i (.var 1) || occ i (.lst (bls bs))) = true; rw [z]; rfl) fun d ρ1 k1 H1 t1 w1 h1 v hv => ?_⟩
    refine ⟨h0, ρ1, k1, w1, pG_mono (pG_bind h1) (fun i z => by show (occ i (.var 1) || occ i (.lst (bls bs))) = true; rw [z, Bool.or_true]) fun e ρ2 k2 H2 t2 w2 h2 u hu => ?_⟩
    exact ⟨k2, d, e, w2.sub, dp_mono t2.kk hv, hu, fin_of w2 h2⟩
  · cases h
theorem h_zip {p pos tpos : Pos} {elts : List Expr} {kk : Nat} {e1 e2 : Expr} {m ms oc : Nat → Bool} {as : Ex} {fs : Rho → R (List PyData × Rho)} (hg : Gl X "zip") (hm : X.mg "zip" = none) (hs : PA X [e1, e2] (tA X.K Tb W ms fs)) (hst : noStar e1 = true) (hst2 : noStar e2 = true) (hms : ∀ i, ms i = true → m i = true) :
    PIH X (.Tuple elts kk tpos) (.Call (.Name "zip" p) [e1, e2] [] pos) (tI X.K Tb W m oc (peekI .zip as oc fs)) := by
  rw [peekI_other (fun z => by cases z)]
  have hz := pi_zipH (X := X) (elts := elts) (kk := kk) (tpos := tpos) (p := p) (pos := pos) hg hm hs (star_cons hst _ X.env) (plain_all pos (by rw [List.all_cons, hst2]; rfl))
  refine ⟨fun pins s σ H R I ⟨ρ, k, w, h⟩ => hz.run pins s σ H R I ⟨ρ, k, w, pG_mono (pG_bind h) hms fun ds ρ1 k1 H1 t1 w1 q vs hvs => ?_⟩⟩
  obtain ⟨xs, ee, g⟩ := pG_itD (ds := ds) q w1
  match ds, hvs, ee with
  | [.list ys, .list zs], hvs, ee =>
    cases hvs with
    | cons h1 h2 =>
      obtain ⟨v, rfl, hv⟩ := one_dp h2
      cases ee
      cases h1 with
      | lst g1 g2 => cases hv with
        | lst g3 g4 => exact ⟨_, _, _, _, rfl, w1.sub.seq g1, w1.sub.seq g3, g _ _ (yl_zip g1 g2 g3 g4) (.inl rfl)⟩
/-- w, g = a pair -/
theorem h_tg (hc : HotC X) (hN : X.N = N) (hnd : X.N.Nodup) {t1 t2 : Expr} {j : Nat} {p : Pos} (h1 : locN N sc 3 t1 = true) (h2 : locN N sc 4 t2 = true) (hs : X.env.scope = sc) :
    PG X (.Tuple [t1, t2] j p) (tG X.K Tb (.cons (.name 3) (.cons (.name 4) .nil))) := by
  obtain ⟨x, p1, rfl, k1, k2⟩ := locN_of hs hN h1
  obtain ⟨y, p2, rfl, k3, k4⟩ := locN_of hs hN h2
  have step : ∀ {i : Nat} {x : Str} {p : Pos}, X.N[i]? = some x → X.env.scope.names.lookup x = some .local → PG X (.Name x p) (tG X.K Tb (.name i)) := fun {i x p} a b => (pg_name hnd a (.inl b) (.inr b)).weaken fun v σ H Q ⟨ρ, k, d, ρ1, w, hv, e, q⟩ => by
    unfold bindT at e
    by_cases hi : i < ρ.length
    · rw [if_pos hi] at e
      cases e
      exact q _ (wf_set w hi hv) (ag_set hi)
    · rw [if_neg hi] at e; cases e
  have nil : PGs X [] (tGs X.K Tb .nil) := pgs_nil.weaken fun v σ H Q ⟨ρ, k, ds, ρ1, w, hv, e, q⟩ => by
    cases ds with
    | nil =>
      cases hv
      unfold bindT at e
      cases e
      exact ⟨rfl, q σ w .refl⟩
    | cons _ _ => unfold bindT at e; cases e
  have cons : ∀ {t r : Tg} {e : Expr} {es : List Expr}, PG X e (tG X.K Tb t) → PGs X es (tGs X.K Tb r) → (assignEach (e :: es) X.env).map (·.2) = assign e X.env :: (assignEach es X.env).map (·.2) → PGs X (e :: es) (tGs X.K Tb (.cons t r)) := fun {t r e es} a b hs => (pgs_cons a b hs).weaken fun v σ H Q ⟨ρ, k, ds, ρ1, w, hv, e, q⟩ => by
    cases ds with
    | nil => unfold bindT at e; cases e
    | cons d ds =>
      cases hv with
      | cons hv1 hv2 =>
        unfold bindT at e
        cases z : bindT t d ρ with
        | ok ρ2 =>
          rw [z] at e
          exact ⟨_, _, rfl, ρ, k, d, ρ2, w, hv1, z, fun σ1 w1 a1 => ⟨ρ2, k, ds, ρ1, w1, hv2, e, fun σ2 w2 a2 => q σ2 w2 (a1.trans a2)⟩⟩
        | _ => rw [z] at e; cases e
  refine (pg_tupH hc (cons (step k1 k2) (cons (step k3 k4) nil rfl) rfl) (n := 2) rfl rfl).weaken fun v σ H Q ⟨ρ, k, d, ρ1, w, hv, e, q⟩ => ?_
  cases d with
  | tuple ds =>
    cases hv with
    | tup h1 h2 =>
      refine ⟨_, _, rfl, sqt_mono w.sub h1, ?_, ρ, k, ds, ρ1, w, h2, e, q⟩
      rw [h2.lenD]
      match ds, e with
      | [_, _], _ => rfl
      | [], e => unfold bindT at e; cases e
      | [d1], e =>
        unfold bindT at e
        cases z : bindT (.name 3) d1 ρ with
        | ok ρ2 => rw [z] at e; unfold R.bind at e; dsimp only at e; unfold bindT at e; cases e
        | _ => rw [z] at e; cases e
      | d1 :: d2 :: d3 :: r, e =>
        unfold bindT at e
        cases z : bindT (.name 3) d1 ρ with
        | ok ρ2 =>
          rw [z] at e
          unfold R.bind at e
          dsimp only at e
          unfold bindT at e
          cases z2 : bindT (.name 4) d2 ρ2 with
          | ok ρ3 => rw [z2] at e; unfold R.bind at e; dsimp only at e; unfold bindT at e; cases e
          | _ => rw [z2] at e; cases e
        | _ => rw [z] at e; cases e
  | _ => unfold bindT at e; cases e
end
end Fo

set_option Elab.async false
set_option linter.all false
set_option maxRecDepth 100000
set_option maxHeartbeats 4000000
/-! SemH6: the helper's return, its whole body, its promise. -/
namespace Fo
open PySem L2 LamX PyProof.Rows L2H HotX
section
variable {Tb : Tbs} {X : Cx} {N : List Str} {sc : Scope} {a D : Addr} {oe : Obj} {C : Ctx} {W : XW}
theorem h_join (G : HotX' Tb X N sc a D oe) {e : Expr} (h : joinC N sc e = true) : PE X e (tE X.K Tb W (fun i => occ i joinX) (evE C joinX)) := by
  unfold joinC at h
  split at h
  · rename_i sp1 jn ap el t1 t2 tk tp zn zp v6 sn ap2 sp2 cp2 v7 zq g3 scope lp cp
    simp only [Bool.and_eq_true, decide_eq_true_eq] at h
    obtain ⟨⟨⟨⟨⟨⟨⟨⟨⟨⟨⟨⟨⟨⟨h1, h2⟩, h3⟩, h4⟩, h5⟩, h6⟩, h7⟩, h8⟩, h9⟩, h10⟩, h11⟩, h12⟩, h13⟩, h14⟩, h15⟩ := h
    subst h4
    obtain ⟨_, z2, z3, z4⟩ := gl_of G.sc h5
    obtain ⟨sj, sq, rfl⟩ := strIs_of h9
    -- ws.split(' ')
    have k1 : PE X (.Call (.Attribute v6 sn ap2) [.Constant (.str " ") sj sq] [] cp2) (tE X.K Tb W (fun i => occ i (.mth .split (.var 2) (.cons (.cst (.str " ")) .nil))) (evE C (.mth .split (.var 2) (.cons (.cst (.str " ")) .nil)))) := by
      have e : evE C (.mth .split (.var 2) (.cons (.cst (.str " ")) .nil)) = fun ρ => (evE C (.var 2) ρ).bind fun (x, ρ1) => if meOk .split x = true then (evA C (.cons (.cst (.str " ")) .nil) ρ1).bind fun (xs, ρ2) => (ofOpt (mthD .split x xs)).bind fun z => .ok (z, ρ2) else .bad := by
        funext ρ
        conv => lhs; rw [evE]
      rw [e]
      have ks : PA X [.Constant (.str " ") sj sq] (tA X.K Tb W (fun i => occ i (.cons (.cst (.str " ")) .nil)) (evA C (.cons (.cst (.str " ")) .nil))) := by
        have e2 : evA C (.cons (.cst (.str " ")) .nil) = fun ρ => (evE C (.cst (.str " ")) ρ).bind fun (x, ρ1) => (evA C .nil ρ1).bind fun (xs, ρ2) => .ok (x :: xs, ρ2) := by
          funext ρ
          conv => lhs; rw [evA]
        have e3 : evA C .nil = fun ρ => .ok ([], ρ) := by funext ρ; rw [evA]
        rw [e2, e3]
        exact a_cons (h_str (C := C) h9) a_nil (m := fun i => occ i (.cons (.cst (.str " ")) .nil)) (ms := fun _ => false) rfl (fun i z => by simp [occ] at z) (fun i z => by cases z)
      have kb : noSuper v6 = true := by
        obtain ⟨x, p, rfl, _⟩ := slN_of G.sc G.names h6
        rfl
      exact s_split h7 h8 (h_var (C := C) G.sc G.names h6) ks kb rfl (fun i z => by show (occ i (.var 2) || occ i (.cons (.cst (.str " ")) .nil)) = true; rw [z]; rfl) (fun i z => by show (occ i (.var 2) || occ i (.cons (.cst (.str " ")) .nil)) = true; rw [z, Bool.or_true])
    have k2 : PE X v7 (tE X.K Tb W (fun i => occ i (.var 1)) (evE C (.var 1))) := h_var G.sc G.names h10
    have n7 : noStar v7 = true := by
      obtain ⟨x, p, rfl, _⟩ := slN_of G.sc G.names h10
      rfl
    let A : Ex := .cons (.mth .split (.var 2) (.cons (.cst (.str " ")) .nil)) (.cons (.var 1) .nil)
    have kA : PA X [.Call (.Attribute v6 sn ap2) [.Constant (.str " ") sj sq] [] cp2, v7] (tA X.K Tb W (fun i => occ i A) (evA C A)) := by
      have e2 : evA C A = fun ρ => (evE C (.mth .split (.var 2) (.cons (.cst (.str " ")) .nil)) ρ).bind fun (x, ρ1) => (evA C (.cons (.var 1) .nil) ρ1).bind fun (xs, ρ2) => .ok (x :: xs, ρ2) := by
        funext ρ
        conv => lhs; rw [evA]
      have e4 : evA C (.cons (.var 1) .nil) = fun ρ => (evE C (.var 1) ρ).bind fun (x, ρ1) => (evA C .nil ρ1).bind fun (xs, ρ2) => .ok (x :: xs, ρ2) := by
        funext ρ
        conv => lhs; rw [evA]
      have e3 : evA C .nil = fun ρ => .ok ([], ρ) := by funext ρ; rw [evA]
      rw [e2, e4, e3]
      exact a_cons k1 (a_cons k2 a_nil n7 (m := fun i => occ i (.cons (.var 1) .nil)) (ms := fun _ => false) (fun i z => by show (occ i (.var 1) || occ i .nil) = true; rw [z]; rfl) (fun i z => by cases z)) rfl
        (fun i z => by show (occ i (.mth .split (.var 2) (.cons (.cst (.str " ")) .nil)) || occ i (.cons (.var 1) .nil)) = true; rw [z]; rfl) (fun i z => by show (occ i (.mth .split (.var 2) (.cons (.cst (.str " ")) .nil)) || occ i (.cons (.var 1) .nil)) = true; rw [z, Bool.or_true])
    let T : Tg := .cons (.name 3) (.cons (.name 4) .nil)
    let L : Ex := .lc T .zip A (.tru (.var 4)) (.var 3)
    have eL : evE C L = fun ρ => (peekI .zip A (fun i => T.slots.contains i || occ i (.tru (.var 4)) || occ i (.var 3)) (evA C A) ρ).bind fun (xs, ρ1) =>
        if xs.length ≤ line then
          (noX (lcGo (bindT T) (tstR false (evE C (.tru (.var 4)))) (evE C (.var 3)) T.slots xs (wipeR ρ1 T.slots))).bind fun (ys, ρ2) => .ok (.list ys, backR ρ1 ρ2 T.slots)
        else .bad := by
      funext ρ
      show evE C (.lc T .zip A (.tru (.var 4)) (.var 3)) ρ = _
      conv => lhs; rw [evE]
      rfl
    have esc : ∀ (s : Shared) (H : Hp) (Ca : Addr) (cl : List (Str × Addr)) (fp : List Addr), (blkH X s H scope (compEnvC scope cl Ca X.env) fp).env.scope = relS scope sc := fun s H Ca cl fp => by rw [← G.sc]; rfl
    have kL : PE X (.ListComp el [⟨.Tuple [t1, t2] tk tp, .Call (.Name "zip" zp) [.Call (.Attribute v6 sn ap2) [.Constant (.str " ") sj sq] [] cp2, v7] [] zq, [g3], 0⟩] scope lp) (tE X.K Tb W (fun i => occ i L) (evE C L)) := by
      refine (pe_lcH (g := tG X.K Tb T) (own := [((N[3]?).getD "", 3), ((N[4]?).getD "", 4)]) G.hot G.nd (h_zip (W := W) (Tb := Tb) (m := fun i => occ i A) (oc := fun i => T.slots.contains i || occ i (.tru (.var 4)) || occ i (.var 3)) (as := A) z2 G.zip kA rfl n7 fun _ z => z)
        (blkOk_by (by rw [G.names, G.sc]; exact h11)) (fun s H Ca cl fp => h_tg (X := blkH X s H scope (compEnvC scope cl Ca X.env) fp) (Tb := Tb) (by
          obtain ⟨p, q1, q2⟩ := G.hot
          exact ⟨p, q1, q2⟩) G.names G.nd h12 h13 (esc s H Ca cl fp)) (tt := tTs X.K Tb (fun i => occ i (.tru (.var 4))) (tstR false (evE C (.tru (.var 4))))) (te := tE X.K Tb W0 (fun i => occ i (.var 3)) (evE C (.var 3)))
        (fun s H Ca cl fp => ?_) (fun s H Ca cl fp => h_var (X := blkH X s H scope (compEnvC scope cl Ca X.env) fp) (C := C) (W := W0) (Tb := Tb) (esc s H Ca cl fp) G.names h15) (folded_of rfl X.env)).weaken fun σ H Q q => ?_
      · have kv := h_var (X := blkH X s H scope (compEnvC scope cl Ca X.env) fp) (C := C) (W := W0) (Tb := Tb) (esc s H Ca cl fp) G.names h14
        have pg : plainT g3 = true := by
          obtain ⟨x, p, rfl, _⟩ := slN_of (esc s H Ca cl fp) G.names h14
          rfl
        have et : evE C (.tru (.var 4)) = fun ρ => (evE C (.var 4) ρ).bind fun (x, ρ1) => (ofOpt (truthD x)).bind fun t => .ok (.bool t, ρ1) := by
          funext ρ
          conv => lhs; rw [evE]
        have kt := t_tru (m := fun i => occ i (.tru (.var 4))) kv pg (fun i z => z)
        rw [← et] at kt
        exact ⟨fun pins s' σ H' Qv I q => (pts_one kt).run pins s' σ H' Qv I q⟩
      · rw [eL] at q
        have q' := f2e (lst_list (fs := peekI .zip A (fun i => T.slots.contains i || occ i (.tru (.var 4)) || occ i (.var 3)) (evA C A)) (fun p d ρ2 q => by
          obtain ⟨xs, ρ3⟩ := p
          dsimp only at q
          by_cases hl : xs.length ≤ line
          · rw [if_pos hl] at q
            cases z : noX (lcGo (bindT T) (tstR false (evE C (.tru (.var 4)))) (evE C (.var 3)) T.slots xs (wipeR ρ3 T.slots)) with
            | bad => rw [z] at q; cases q
            | exc c => rw [z] at q; cases q
            | ok r => rw [z] at q; obtain ⟨ys, ρ4⟩ := r; cases q; exact ⟨_, rfl⟩
          · rw [if_neg hl] at q; cases q)) q
        refine i_lc (t := T) (oc := fun i => T.slots.contains i || occ i (.tru (.var 4)) || occ i (.var 3)) (fun i z => ?_) (fun i z => ?_) (fun i z => ?_) (fun i z => ?_) (fun i z => ?_) q'
        · show (T.slots.contains i || occ i A || occ i (.tru (.var 4)) || occ i (.var 3)) = true
          rw [show occ i A = true from z]; simp
        · show (T.slots.contains i || occ i (.tru (.var 4)) || occ i (.var 3)) = true
          rw [show occ i (.tru (.var 4)) = true from z]; simp
        · show (T.slots.contains i || occ i (.tru (.var 4)) || occ i (.var 3)) = true
          rw [show occ i (.var 3) = true from z]; simp
        · show (T.slots.contains i || occ i (.tru (.var 4)) || occ i (.var 3)) = true
          rw [show T.slots.contains i = true from List.elem_eq_true_of_mem z]; simp
        · show (T.slots.contains i || occ i A || occ i (.tru (.var 4)) || occ i (.var 3)) = true
          simp only [Bool.or_eq_true] at z
          rcases z with (z | z) | z
          · rw [z]; simp
          · rw [z]; simp
          · rw [z]; simp
    have eJ : evE C joinX = fun ρ => (evE C (.cst (.str " ")) ρ).bind fun (x, ρ1) => if meOk .join x = true then (evA C (.cons L .nil) ρ1).bind fun (xs, ρ2) => (ofOpt (mthD .join x xs)).bind fun z => .ok (z, ρ2) else .bad := by
      funext ρ
      show evE C (.mth .join (.cst (.str " ")) (.cons L .nil)) ρ = _
      conv => lhs; rw [evE]
    have kJ : PA X [.ListComp el [⟨.Tuple [t1, t2] tk tp, .Call (.Name "zip" zp) [.Call (.Attribute v6 sn ap2) [.Constant (.str " ") sj sq] [] cp2, v7] [] zq, [g3], 0⟩] scope lp] (tA X.K Tb W (fun i => occ i (.cons L .nil)) (evA C (.cons L .nil))) := by
      have e4 : evA C (.cons L .nil) = fun ρ => (evE C L ρ).bind fun (x, ρ1) => (evA C .nil ρ1).bind fun (xs, ρ2) => .ok (x :: xs, ρ2) := by
        funext ρ
        conv => lhs; rw [evA]
      have e3 : evA C .nil = fun ρ => .ok ([], ρ) := by funext ρ; rw [evA]
      rw [e4, e3]
      exact a_cons kL a_nil rfl (m := fun i => occ i (.cons L .nil)) (ms := fun _ => false) (fun i z => by show (occ i L || occ i .nil) = true; rw [z]; rfl) (fun i z => by cases z)
    have kb : noSuper sp1 = true := by
      obtain ⟨j, p, rfl⟩ := strIs_of h1
      rfl
    rw [eJ]
    exact s_join h2 h3 (h_str (C := C) h1) kJ kb rfl (fun i z => by show (occ i (.cst (.str " ")) || occ i (.cons L .nil)) = true; rw [z]; rfl) (fun i z => by show (occ i (.cst (.str " ")) || occ i (.cons L .nil)) = true; rw [z, Bool.or_true])
  · cases h
end
end Fo

set_option Elab.async false
set_option linter.all false
set_option maxRecDepth 100000
set_option maxHeartbeats 4000000
/-! SemH7: the helper's promise; the defs that call a lambda under their try. -/
namespace Fo
open PySem L2 LamX PyProof.Rows L2H HotX
abbrev CXn : CXT := fun _ _ _ _ _ _ => False
def C0 : Ctx := ⟨0, fun _ _ _ => .bad, fun _ => none, fun _ _ => none⟩
def neRun (b1 b2 b3 b4 : List Bool) (wd : Str) : Option Str := match evS C0 (neX b1 b2 b3 b4 wd) (List.replicate 5 .no) with
  | .ok (.ret (.str d), _) => some d
  | _ => none
/-- what is known of the tested classes -/
structure Tests (mg : Str → Option Value) (cs : List Str) (cvs : List Value) : Prop where
  len : cs.length = cvs.length
  ok : ∀ (i : Nat) (c : Str) (cv : Value), cs[i]? = some c → cvs[i]? = some cv → ClsV mg c cv
/-- .. and of an exception's class -/
def Kit (K : PySem.W.Frag) (D : Addr) (cvs : List Value) (bs : List Bool) : Prop := cvs.map (fun cv => PySem.W.kitOne K (.ref D) cv) = bs.map some
theorem Kit.get {K : PySem.W.Frag} {D : Addr} : ∀ {cvs : List Value} {bs : List Bool}, Kit K D cvs bs → cvs.length = bs.length ∧ ∀ (i : Nat) (cv : Value) (b : Bool), cvs[i]? = some cv → bs[i]? = some b → PySem.W.kitOne K (.ref D) cv = some b := by
  intro cvs bs h
  unfold Kit at h
  have hl : cvs.length = bs.length := by
    have := congrArg List.length h
    rw [List.length_map, List.length_map] at this
    exact this
  refine ⟨hl, fun i cv b h1 h2 => ?_⟩
  have e : (cvs.map fun cv => PySem.W.kitOne K (.ref D) cv)[i]? = (bs.map some)[i]? := by rw [h]
  rw [List.getElem?_map, List.getElem?_map, h1, h2] at e
  exact Option.some.inj e
structure NeT (mg : Str → Option Value) where
  c1 : List Str
  c2 : List Str
  c3 : List Str
  c4 : List Str
  v1 : List Value
  v2 : List Value
  v3 : List Value
  v4 : List Value
  wd : Str
  t1 : Tests mg c1 v1
  t2 : Tests mg c2 v2
  t3 : Tests mg c3 v3
  t4 : Tests mg c4 v4
def NeT.word {mg : Str → Option Value} (T : NeT mg) (K : PySem.W.Frag) (D : Addr) (d : Str) : Prop :=
  ExcC K D ∧ ∃ b1 b2 b3 b4, Kit K D T.v1 b1 ∧ Kit K D T.v2 b2 ∧ Kit K D T.v3 b3 ∧ Kit K D T.v4 b4 ∧ neRun b1 b2 b3 b4 T.wd = some d
def spNe {mg : Str → Option Value} (T : NeT mg) (K : PySem.W.Frag) (Tb : Tbs) : Addr × Obj → Sp := fun p vs H Q _ => vs = [.ref p.1] ∧ Tabs Tb H ∧ ∃ D d, Zc (.ref D) none p.2 ∧ (∃ vs, p.2.data = .fields vs) ∧ T.word K D d ∧ ∀ H1, Keep Tb H H1 → Q (.str d) H1
section
variable {Tb : Tbs} {X : Cx} {N : List Str} {sc : Scope} {a D : Addr} {oe : Obj} {C : Ctx} {W : XW}
theorem h_seq {st : Stmt} {rest : List Stmt} {s r : Sx} (h1 : PS X st (fun D' σ H => σ[0]? = some (some (.ref a)) ∧ tS X.K Tb W true false (evS C s) D' σ H)) (h2 : PSs X rest (fun D' σ H => σ[0]? = some (some (.ref a)) ∧ tS X.K Tb W true false (evS C r) D' σ H)) :
    PSs X (st :: rest) (fun D' σ H => σ[0]? = some (some (.ref a)) ∧ tS X.K Tb W true false (evS C (.seq s r)) D' σ H) := by
  have ev : evS C (.seq s r) = fun ρ => thenS (evS C s ρ) (evS C r) := by funext ρ; rw [evS]; rfl
  refine (pss_cons h1 h2).weaken fun E σ H ⟨h0, q⟩ => ?_
  rw [ev] at q
  obtain ⟨ρ, k, w, q⟩ := q
  refine ⟨h0, ρ, k, w, pS_mono (pS_seq q) (fun σ1 ρ1 k1 H1 t1 w1 z => ⟨(t1.io0 rfl).trans h0, z⟩) (fun _ _ z => z)⟩
theorem h_body (G : HotX' Tb X N sc a D oe) {T : NeT X.mg} {b1 b2 b3 b4 : List Bool} (k1 : Kit X.K D T.v1 b1) (k2 : Kit X.K D T.v2 b2) (k3 : Kit X.K D T.v3 b3) (k4 : Kit X.K D T.v4 b4) {body : List Stmt} (h : neC N sc T.c1 T.c2 T.c3 T.c4 T.wd body = true) :
    PSs X body (fun D' σ H => σ[0]? = some (some (.ref a)) ∧ tS X.K Tb W true false (evS C (neX b1 b2 b3 b4 T.wd)) D' σ H) := by
  have mk : ∀ {cs : List Str} {cvs : List Value} {bs : List Bool}, Tests X.mg cs cvs → Kit X.K D cvs bs → (∀ (i : Nat) (c : Str) (cv : Value) (b : Bool), cs[i]? = some c → cvs[i]? = some cv → bs[i]? = some b → ClsV X.mg c cv ∧ PySem.W.kitOne X.K (.ref D) cv = some b) ∧ cs.length = cvs.length ∧ cs.length = bs.length := fun {cs cvs bs} t k =>
    ⟨fun i c cv b e1 e2 e3 => ⟨t.ok i c cv e1 e2, k.get.2 i cv b e2 e3⟩, t.len, t.len.trans k.get.1⟩
  unfold neC at h
  split at h
  · rename_i tt1 es1 lp ap1 s2 s3 tt4 w4 ap4 s5 r rp
    simp only [Bool.and_eq_true] at h
    obtain ⟨⟨⟨⟨⟨⟨⟨⟨g1, g2⟩, g3⟩, g4⟩, g5⟩, g6⟩, g7⟩, g8⟩, g9⟩ := h
    obtain ⟨x1, p1, rfl, n1, l1⟩ := locN_of G.sc G.names g2
    obtain ⟨x4, p4, rfl, n4, l4⟩ := locN_of G.sc G.names g6
    obtain ⟨m1, m2, m3⟩ := mk T.t1 k1
    obtain ⟨m4, m5, m6⟩ := mk T.t2 k2
    obtain ⟨m7, m8, m9⟩ := mk T.t3 k3
    obtain ⟨m10, m11, m12⟩ := mk T.t4 k4
    have a1 := h_set (C := C) (W := W) (Tb := Tb) (p := p1) (pos := ap1) (xa := .lst (bls b1)) (e := .Name x1 p1) G g1 n1 l1 rfl (by decide) (h_lst (pos := lp) G (h_isl (C := C) (W := W) (Tb := Tb) G (fun i => occ i (.lst (bls b1))) m1 m2 m3 g3))
    have a2 := h_add (C := C) (W := W) (Tb := Tb) G g1 m4 m5 m6 g4
    have a3 := h_add (C := C) (W := W) (Tb := Tb) G g1 m7 m8 m9 g5
    have a4 := h_set (C := C) (W := W) (Tb := Tb) (p := p4) (pos := ap4) (xa := .cst (.str T.wd)) (e := .Name x4 p4) G g1 n4 l4 (v := w4) (by obtain ⟨j, p, rfl⟩ := strIs_of g7; rfl) (by decide) ((h_str (C := C) (W := W) (Tb := Tb) (X := X) g7).weaken fun σ H Q ⟨_, q⟩ => q)
    have a5 := h_add (C := C) (W := W) (Tb := Tb) G g1 m10 m11 m12 g8
    have a6 : PSs X [.Return (some r) rp] (fun D' σ H => σ[0]? = some (some (.ref a)) ∧ tS X.K Tb W true false (evS C (.seq (.ret joinX) .skip)) D' σ H) := by
      refine (pss_one (ps_ret (h_join (C := C) (W := W) (Tb := Tb) G g9))).weaken fun E σ H ⟨h0, q⟩ => ?_
      have ev : evS C (.seq (.ret joinX) .skip) = fun ρ => (evE C joinX ρ).bind fun (x, ρ1) => .ok (.ret x, ρ1) := by
        funext ρ
        rw [evS, evS, R.bind_assoc]
        rfl
      rw [ev] at q
      obtain ⟨ρ, k, w, q⟩ := q
      refine ⟨ρ, k, w, pG_mono (pS_e0 q) (fun _ z => z) fun d ρ1 k1 H1 t1 w1 q1 u hu => q1 _ σ k1 H1 t1.toS w1 ?_⟩
      unfold RetOk
      rw [if_neg Bool.false_ne_true]
      exact hu
    exact h_seq a1 (h_seq a2 (h_seq a3 (h_seq a4 (h_seq a5 a6))))
  · cases h
end
/-- the helper's def, called while an exception is handled -/
theorem fnH_ne {P : Program} {w : World} {K : PySem.W.Frag} {mg : Str → Option Value} {base : Heap} {f : Addr} {x qual : Str} {st : Stmt} {N : List Str} {e0 : Str} {oc : Value} {od an : Option Addr} {osl : Array (Option Value)} {dV kV doc pm cdv ct : Value} {Tb : Tbs} {k : Nat} {T : NeT mg}
    (lk : K.lookup f = some ⟨oc, od, .func (PySem.W.fnOf x qual (defArgs st) (defBody st) (defScope st) dV kV doc pm an cdv ct), osl⟩) (hcd : PySem.W.codeIn K cdv qual = true) (S : FnScope N [e0] (defScope st)) (hN : N.length = 5)
    (hm : mg "isinstance" = none) (hz : mg "zip" = none) (hb : neC N (defScope st) T.c1 T.c2 T.c3 T.c4 T.wd (defBody st) = true) :
    FnHp P w K mg base CXn (k + 1) f (PySem.W.fnOf x qual (defArgs st) (defBody st) (defScope st) dV kV doc pm an cdv ct) [e0] (spNe T K Tb) := by
  refine fn_ofHp lk hcd S (fun p vs H Q E h => by rw [h.1]; rfl) fun A outer s H vs Q E p hot hr hsp => ?_
  obtain ⟨rfl, tab, D, d, zc, fl, ⟨ec, b1, b2, b3, b4, k1, k2, k3, k4, run⟩, q⟩ := hsp
  have G : HotX' Tb (cxH CXn P w K mg base N qual (defScope st) f cdv A outer s H E p) N (defScope st) p.1 D p.2 := {
    hot := ⟨p, hot, List.mem_singleton.mpr rfl⟩
    pn := List.mem_singleton.mpr rfl
    z := zc
    f := fl
    C := ec
    names := rfl
    nd := S.nd
    sc := rfl
    fnT := fun _ => rfl
    isi := hm
    zip := hz }
  refine ⟨_, h_body (C := C0) (W := W0) (T := T) G k1 k2 k3 k4 hb, rfl, List.replicate 5 .no, fun _ => none, ?_, ?_⟩
  · refine ⟨fun b o z => (by cases z), fun b ps z => (by cases z), tab, ?_, fun i d z => ?_, fun i d z => ?_, fun i j b o _ => ?_⟩
    · show 5 = (L2.start N [V.ref p.1]).length
      unfold L2.start
      rw [List.length_append, List.length_map, List.length_replicate, hN]; rfl
    · rw [List.getElem?_replicate] at z; split at z <;> cases z
    · rw [List.getElem?_replicate] at z; split at z <;> cases z
    · obtain ⟨⟨x, z⟩, _⟩ := o
      rw [List.getElem?_replicate] at z; split at z <;> cases z
  · unfold neRun at run
    split at run
    · rename_i d' ρ' e
      cases run
      rw [e]
      intro v σ1 k1' H1 t1 w1 ro
      unfold RetOk at ro
      rw [if_neg Bool.false_ne_true] at ro
      rw [dp_str ro]
      have no : ∀ {i b}, ¬ Own (L2.start N [V.ref p.1]) (List.replicate 5 .no) i b := fun {i b} o => by
        obtain ⟨⟨x, z⟩, _⟩ := o
        rw [List.getElem?_replicate] at z; split at z <;> cases z
      exact q H1 ⟨fun b o hb nt => (t1.frm b o hb nt).elim id fun ⟨i, o⟩ => absurd o no, t1.dom, w1.tab⟩
    · cases run
end Fo

set_option Elab.async false
set_option linter.all false
set_option maxRecDepth 100000
set_option maxHeartbeats 4000000
/-! SemH8: the defs that call a lambda under their try. -/
namespace Fo
open PySem L2 LamX PyProof.Rows L2H HotX
/-- try: a() / except fe as n: return ne(n) // return '' -/
def errC (Ng : List Str) (sg : Scope) (fe ne : Str) : List Stmt → Bool
  | [.Try [.Expr (.Call (.Name a1 _) [] [] _) _] [.ExceptHandler (some (.Name x _)) (some n) [.Return (some (.Call (.Name y _) [.Name n2 _] [] _)) _] _] [] [] _, .Return (some c) _] =>
    decide (Ng[0]? = some a1) && decide (Ng[1]? = some n) && isLoc sg n && decide (x = fe) && ckG sg x x && decide (y = ne) && ckG sg y y && ckV Ng sg 1 n2 && strIs "" c
  | _ => false
/-- try: return (a(), '') / except fe as n: return (None, ne(n)) -/
def toldC (Ng : List Str) (sg : Scope) (fe ne : Str) : List Stmt → Bool
  | [.Try [.Return (some (.Tuple [.Call (.Name a1 _) [] [] _, c] _ _)) _] [.ExceptHandler (some (.Name x _)) (some n) [.Return (some (.Tuple [.Constant .none _ _, .Call (.Name y _) [.Name n2 _] [] _] _ _)) _] _] [] [] _] =>
    decide (Ng[0]? = some a1) && decide (Ng[1]? = some n) && isLoc sg n && decide (x = fe) && ckG sg x x && decide (y = ne) && ckG sg y y && ckV Ng sg 1 n2 && strIs "" c
  | _ => false
def errG (words : Nat → Option Str) : R PyData → Option PyData
  | .ok _ => some (.str "")
  | .exc c => (words c).map .str
  | .bad => none
def toldG (words : Nat → Option Str) : R PyData → Option PyData
  | .ok d => some (.tuple [d, .str ""])
  | .exc c => (words c).map fun w => .tuple [.none, .str w]
  | .bad => none
/-- what the two ask of the text -/
structure NeD (P : Program) (w : World) (K : PySem.W.Frag) (mg : Str → Option Value) (base : Heap) (Tb : Tbs) (ca : Nat → Addr) (fe ne : Str) (words : Nat → Option Str) where
  T : NeT mg
  CS : Addr
  g2 : Addr
  fd2 : FuncData
  e0 : Str
  mfe : mg fe = some (.ref CS)
  mne : mg ne = some (.ref g2)
  kp : PySem.W.keepIn K (.ref g2) = true
  bn : L2.Binds K fd2 [e0] []
  fn : FnHp P w K mg base CXn 1 g2 fd2 [e0] (spNe T K Tb)
  wd : ∀ c d, words c = some d → T.word K (ca c) d ∧ PySem.W.exmOne K (.ref (ca c)) (.ref CS) = some true
theorem L2N.takes0 {X : Cx} : L2N.Takes X (fun _ _ _ _ => False) := fun _ _ x => by
  obtain ⟨_, _, _, _, _, _, _, _, _, _, _, _, _, _, _, _, z⟩ := x
  exact z.elim
/-- the suite's wish: w, the word, is what comes of it -/
def tSui (Tb : Tbs) (K : PySem.W.Frag) {mg : Str → Option Value} (T : NeT mg) (n : Nat) (a : Addr) (cls : Value) (d : Option Addr) (G : Str → Hp → VK → Prop) : TS := fun D σ H =>
  (σ.length = n → σ[1]? = some (some (.ref a))) ∧ Tabs Tb H ∧ d = none ∧ ∃ Dd w, cls = .ref Dd ∧ T.word K Dd w ∧ ∀ H1, Keep Tb H H1 → G w H1 D.rt
section
variable {P : Program} {w : World} {K : PySem.W.Frag} {mg : Str → Option Value} {base : Heap} {Tb : Tbs} {ca : Nat → Addr} {fe ne : Str} {words : Nat → Option Str}
/-- ne(n) in the suite -/
theorem sui_call (M : NeD P w K mg base Tb ca fe ne words) {X : Cx} (hP : X.prog = P) (hw : X.w = w) (hK : X.K = K) (hmg : X.mg = mg) (hb : X.base = base) {a : Addr} {oe : Obj} {cls : Value} {d : Option Addr} {pn : List (Addr × Obj)} (hr : Room 1 X.A) (hz : L2N.Zn cls d oe) (hf : ∃ vs, oe.data = .fields vs)
    {n2 : Str} {q1 q2 q3 : Pos} (hg : X.env.scope.names.lookup ne = some .globalImplicit) (hd : (ne == ("__debug__" : Str)) = false) (hN : X.N[1]? = some n2) (hv : Vis X.env.scope n2) (hd2 : (n2 == ("__debug__" : Str)) = false) (hc2 : (n2 == ("__classdict__" : Str)) = false) :
    PE (X.suite a ((a, oe) :: pn)) (.Call (.Name ne q1) [.Name n2 q2] [] q3) (fun σ H Q => σ[1]? = some (some (.ref a)) ∧ Tabs Tb H ∧ d = none ∧ ∃ Dd w, cls = .ref Dd ∧ M.T.word K Dd w ∧ ∀ H1, Keep Tb H H1 → Q (.str w) H1) := by
  subst hP hw hK hmg hb
  obtain ⟨vs, hvs⟩ := hf
  refine (pe_callHp (X := X.suite a ((a, oe) :: pn)) (p := (a, oe)) (E := fun _ _ _ _ => False) M.fn (roomH_mark hr _) ⟨rfl, vs, hvs, hz.2.2 vs hvs⟩ List.mem_cons_self hg M.mne M.kp M.bn (fun σ => fun _ _ _ _ _ _ z => z.elim) (pa_cons (pe_var (i := 1) hN hv hd2 hc2) pa_nil (star_cons rfl [] X.env)) hd (star_cons rfl [] X.env) rfl).weaken fun σ H Q ⟨h1, h2, h3, Dd, wd, h4, h5, h6⟩ => ?_
  subst h3 h4
  exact ⟨_, h1, rfl, h2, Dd, wd, ⟨hz.1, hz.2.1⟩, ⟨vs, hvs⟩, h5, h6⟩
theorem keep_sub {k H H1 : Hp} (nt : ∀ b ps, k b ≠ some (.tbl ps)) (s : Same k H) (q : Keep Tb H H1) : Same k H1 := fun b o h => q.1 b o (s b o h) fun ps z => nt b ps (by rw [h, z])
/-- _law_error's like -/
theorem err_gives (M : NeD P w K mg base Tb ca fe ne words) {X : Cx} (hP : X.prog = P) (hw : X.w = w) (hK : X.K = K) (hmg : X.mg = mg) (hb : X.base = base) {Ng : List Str} {x a q : Str} {sg : Scope} {g : Addr} {cdg : Value} {bg : List Stmt} (S : FnScope Ng [a] sg) (hc : errC Ng sg fe ne bg = true) :
    GivesN X Ng x sg g cdg bg a q (TTof K Tb ca (errG words)) := by
  subst hP hw hK hmg hb
  intro f c' s H Q tl mono room act hc' h
  unfold errC at hc
  split at hc
  · rename_i a1 p1 p2 p3 fx p4 n y p5 n2 p6 p7 p8 p9 p10 c p11
    simp only [Bool.and_eq_true, decide_eq_true_eq] at hc
    obtain ⟨⟨⟨⟨⟨⟨⟨⟨h1, h2⟩, h3⟩, h4⟩, h5⟩, h6⟩, h7⟩, h8⟩, h9⟩ := hc
    subst h4 h6
    have ea : a1 = a := by
      have q : Ng[0]? = some a := by
        have := S.pre
        cases Ng with
        | nil => cases h1
        | cons b r => simp at this; rw [this]; rfl
      rw [h1] at q; exact Option.some.inj q
    subst ea
    obtain ⟨j, pj, rfl⟩ := strIs_of h9
    obtain ⟨_, f2, f3, f4⟩ := ckG_of h5
    obtain ⟨_, g2, g3, g4⟩ := ckG_of h7
    obtain ⟨v1, v2, v3, v4⟩ := ckV_of h8
    let Z : Cx := cxOf C8.CX0 X.prog X.w X.K X.mg X.base Ng x sg g cdg X.A X.stack s H C8.E0
    have hn : Z.nox.env.scope.names.lookup n = some .local := by
      have q := isLoc_of (X := Z.nox) (sc := sg) rfl h3
      exact q
    have tryP := L2N.ps_try_as (X := Z.nox) (x := fx) (n := n) (c := .ref M.CS) (i := 1) (np := p4) (pos := p10) (pos' := p9) (body := [.Expr (.Call (.Name a1 p1) [] [] p2) p3]) (suite := []) (b₀ := .Return (some (.Call (.Name y p5) [.Name n2 p6] [] p7)) p8)
      (tb := fun W D σ H => ∃ E : XK, (∀ cls d σ' H', E cls d H' → W cls d σ' H') ∧ σ[0]? = some (some (.ref f)) ∧ H c' = some (CodeO c' q) ∧ tl E H (fun _ H' => D.nx σ H'))
      (ts := fun a cls d => tSui Tb X.K M.T Ng.length a cls d fun w H1 R => R (.str w) H1) (Wout := fun _ _ _ _ => False) rfl rfl S.nd h2 hn ⟨f2, f3, .inl M.mfe⟩ L2N.takes0 (fun W pn xe tk _ => ?_) (fun a oe cls d pn hz hf => ?_)
    · refine ⟨_, pss_cons tryP (pss_one (ps_ret (pe_str (pos := pj) (j := j)))), ?_⟩
      have h0 : (L2.start Ng [V.ref f])[0]? = some (some (V.ref f)) := rfl
      refine ⟨fun cls d H' => ∃ c k, cls = .ref (ca c) ∧ d = none ∧ Same k H' ∧ Tabs Tb H' ∧ (∀ b ps, k b ≠ some (.tbl ps)) ∧ ∀ H2, Keep Tb H' H2 → Fin X.K k H2 (errG words (.exc c)) Q, fun cls d σ' H' ⟨c, k, e1, e2, e3, e4, e5, e6⟩ => ?_, h0, hc', ?_⟩
      · subst e1 e2
        have hwd : ∃ w, words c = some w := by
          cases e : words c with
          | some w => exact ⟨w, rfl⟩
          | none =>
            have := e6 H' ⟨fun _ _ h _ => h, fun _ h => h, e4⟩
            unfold errG at this; dsimp only at this
            rw [e] at this
            exact this.elim
        obtain ⟨wd, hwd⟩ := hwd
        obtain ⟨t1, t2⟩ := M.wd c wd hwd
        refine ⟨true, t2, fun _ a ha => ⟨fun hl => ?_, e4, rfl, ca c, wd, rfl, t1, fun H1 kp => ?_⟩, fun z => by cases z⟩
        · have : 1 < σ'.length := by
            rw [List.length_set] at hl
            rw [hl]
            exact (List.getElem?_eq_some_iff.mp h2).1
          exact List.getElem?_set_self this
        · have := e6 H1 kp
          unfold errG at this; dsimp only at this
          rw [hwd] at this
          exact this _ k H1 (Px.refl (keep_sub e5 e3 kp)) (.str wd)
      · refine mono _ _ _ _ _ (fun _ _ _ z => z) (fun v H' z => ?_) h
        obtain ⟨k, d, e1, e2, e3, e4⟩ := z
        exact e4 _ k H' (Px.refl e1) (.str "")
    · refine ⟨fun pins s' σ H' D I h' => ?_⟩
      obtain ⟨Ech, hW, z1, z2, z3⟩ := h'
      have hp := act W pn xe Ech p1 p2 tk hW
      have hq := pss_one (ps_expr (pos := p3) hp (sw_comp rfl))
      exact hq.run pins s' σ H' D I ⟨z1, z2, z3⟩
    · refine ⟨fun pins s' σ H' D I h' => ?_⟩
      obtain ⟨z1, z2, z3, Dd, wd, z4, z5, z6⟩ := h'
      have hp := sui_call M (X := Z.nox) (a := a) rfl rfl rfl rfl rfl (pn := pn) (q1 := p5) (q2 := p6) (q3 := p7) room hz hf g2 g3 v1 v2 v3 v4
      exact (pss_one (ps_ret (pos := p8) hp)).run pins s' σ H' D I ⟨z1 I.len, z2, z3, Dd, wd, z4, z5, z6⟩
  · cases hc
/-- _law_told's like -/
theorem told_gives (M : NeD P w K mg base Tb ca fe ne words) {X : Cx} (hP : X.prog = P) (hw : X.w = w) (hK : X.K = K) (hmg : X.mg = mg) (hb : X.base = base) {Ng : List Str} {x a q : Str} {sg : Scope} {g : Addr} {cdg : Value} {bg : List Stmt} (S : FnScope Ng [a] sg) (hc : toldC Ng sg fe ne bg = true) :
    GivesN X Ng x sg g cdg bg a q (TTof K Tb ca (toldG words)) := by
  subst hP hw hK hmg hb
  intro f c' s H Q tl mono room act hc' h
  unfold toldC at hc
  split at hc
  · rename_i a1 p1 p2 c tj p3 p4 fx p5 n nj np y p6 n2 p7 p8 tj2 p9 p10 p11 p12
    simp only [Bool.and_eq_true, decide_eq_true_eq] at hc
    obtain ⟨⟨⟨⟨⟨⟨⟨⟨h1, h2⟩, h3⟩, h4⟩, h5⟩, h6⟩, h7⟩, h8⟩, h9⟩ := hc
    subst h4 h6
    have ea : a1 = a := by
      have q : Ng[0]? = some a := by
        have := S.pre
        cases Ng with
        | nil => cases h1
        | cons b r => simp at this; rw [this]; rfl
      rw [h1] at q; exact Option.some.inj q
    subst ea
    obtain ⟨j, pj, rfl⟩ := strIs_of h9
    obtain ⟨_, f2, f3, f4⟩ := ckG_of h5
    obtain ⟨_, g2, g3, g4⟩ := ckG_of h7
    obtain ⟨v1, v2, v3, v4⟩ := ckV_of h8
    let Z : Cx := cxOf C8.CX0 X.prog X.w X.K X.mg X.base Ng x sg g cdg X.A X.stack s H C8.E0
    have hn : Z.nox.env.scope.names.lookup n = some .local := by
      have q := isLoc_of (X := Z.nox) (sc := sg) rfl h3
      exact q
    have tryP := L2N.ps_try_as (X := Z.nox) (x := fx) (n := n) (c := .ref M.CS) (i := 1) (np := p5) (pos := p12) (pos' := p11) (body := [.Return (some (.Tuple [.Call (.Name a1 p1) [] [] p2, .Constant (.str "") j pj] tj p3)) p4]) (suite := []) (b₀ := .Return (some (.Tuple [.Constant .none nj np, .Call (.Name y p6) [.Name n2 p7] [] p8] tj2 p9)) p10)
      (tb := fun W D σ H => ∃ E : XK, (∀ cls d σ' H', E cls d H' → W cls d σ' H') ∧ σ[0]? = some (some (.ref f)) ∧ H c' = some (CodeO c' q) ∧ tl E H (fun v H' => ∀ p, H' p = none → D.rt (.ref p) (upd H' p (.tup [v, .str ""]))))
      (ts := fun a cls d => tSui Tb X.K M.T Ng.length a cls d fun w H1 R => ∀ p, H1 p = none → R (.ref p) (upd H1 p (.tup [.non, .str w]))) (Wout := fun _ _ _ _ => False) rfl rfl S.nd h2 hn ⟨f2, f3, .inl M.mfe⟩ L2N.takes0 (fun W pn xe tk _ => ?_) (fun a oe cls d pn hz hf => ?_)
    · refine ⟨_, pss_one tryP, ?_⟩
      have h0 : (L2.start Ng [V.ref f])[0]? = some (some (V.ref f)) := rfl
      refine ⟨fun cls d H' => ∃ c k, cls = .ref (ca c) ∧ d = none ∧ Same k H' ∧ Tabs Tb H' ∧ (∀ b ps, k b ≠ some (.tbl ps)) ∧ ∀ H2, Keep Tb H' H2 → Fin X.K k H2 (toldG words (.exc c)) Q, fun cls d σ' H' ⟨c, k, e1, e2, e3, e4, e5, e6⟩ => ?_, h0, hc', ?_⟩
      · subst e1 e2
        have hwd : ∃ w, words c = some w := by
          cases e : words c with
          | some w => exact ⟨w, rfl⟩
          | none =>
            have := e6 H' ⟨fun _ _ h _ => h, fun _ h => h, e4⟩
            unfold toldG at this; dsimp only at this
            rw [e] at this
            exact this.elim
        obtain ⟨wd, hwd⟩ := hwd
        obtain ⟨t1, t2⟩ := M.wd c wd hwd
        refine ⟨true, t2, fun _ a ha => ⟨fun hl => ?_, e4, rfl, ca c, wd, rfl, t1, fun H1 kp p hp => ?_⟩, fun z => by cases z⟩
        · have : 1 < σ'.length := by
            rw [List.length_set] at hl
            rw [hl]
            exact (List.getElem?_eq_some_iff.mp h2).1
          exact List.getElem?_set_self this
        · have := e6 H1 kp
          unfold toldG at this; dsimp only at this
          rw [hwd] at this
          have px := Px.alloc (keep_sub e5 e3 kp) hp (o := .tup [.non, .str wd]) (fun ps z => by cases z)
          exact this _ _ _ px (.tup (.of upd_same) (.cons .non (.cons (.str wd) .nil)))
      · refine mono _ _ _ _ _ (fun _ _ _ z => z) (fun v H' z => ?_) h
        obtain ⟨k, d, e1, e2, e3, e4⟩ := z
        intro p hp
        have px := Px.alloc e1 hp (o := .tup [v, .str ""]) (fun ps z => by cases z)
        exact e4 _ _ _ px (.tup (.of upd_same) (.cons (dp_mono px.kk e3) (.cons (.str "") .nil)))
    · refine ⟨fun pins s' σ H' D I h' => ?_⟩
      obtain ⟨Ech, hW, z1, z2, z3⟩ := h'
      have hp := act W pn xe Ech p1 p2 tk hW
      have hq := pss_one (ps_ret (pos := p4) (pe_tup (x1 := tj) (pos := p3) (pa_cons hp (pa_cons (pe_str (pos := pj) (j := j) (x := "")) pa_nil rfl) rfl)))
      refine hq.run pins s' σ H' D I ⟨z1, z2, mono _ _ _ _ _ (fun _ _ _ z => z) (fun v H1 z => ?_) z3⟩
      exact ⟨by show 2 ≤ sizeLine; decide, z⟩
    · refine ⟨fun pins s' σ H' D I h' => ?_⟩
      obtain ⟨z1, z2, z3, Dd, wd, z4, z5, z6⟩ := h'
      have hp := sui_call M (X := Z.nox) (a := a) rfl rfl rfl rfl rfl (pn := pn) (q1 := p6) (q2 := p7) (q3 := p8) room hz hf g2 g3 v1 v2 v3 v4
      refine (pss_one (ps_ret (pos := p10) (pe_tup (x1 := tj2) (pos := p9) (pa_cons (pe_non (pos := np) (j := nj)) (pa_cons hp pa_nil rfl) rfl)))).run pins s' σ H' D I ⟨z1 I.len, z2, z3, Dd, wd, z4, z5, fun H1 kp => ⟨by show 2 ≤ sizeLine; decide, z6 H1 kp⟩⟩
  · cases hc
end
end Fo

set_option Elab.async false
set_option linter.all false
set_option maxRecDepth 100000
set_option maxHeartbeats 4000000
/-! SemT: the text's table; a law's end. -/
namespace Fo
open PySem L2 LamX PyProof.Rows L2H HotX
section
variable {P : Program} {w : World} {K : PySem.W.Frag} {mg : Str → Option Value} {base : Heap} {t : Tx} {Q : Prog} {Tb : Tbs} {ca : Nat → Addr}
/-- a def of the text as it stands behind the top -/
structure RowOk (P : Program) (w : World) (K : PySem.W.Frag) (mg : Str → Option Value) (base : Heap) (t : Tx) (Q : Prog) (Tb : Tbs) (ca : Nat → Addr) (f : Nat) (y : Str) (F : Df) : Prop where
  ex : ∃ (ad : Addr) (st : Stmt) (N ps : List Str) (l : Bool) (oc : Value) (od an : Option Addr) (osl : Array (Option Value)) (kV doc pm cdv ct : Value),
    mg y = some (.ref ad) ∧ PySem.W.keepIn K (.ref ad) = true ∧ K.lookup ad = some ⟨oc, od, .func (PySem.W.fnOf y y (defArgs st) (defBody st) (defScope st) .none kV doc pm an cdv ct), osl⟩ ∧ PySem.W.codeIn K cdv y = true ∧
    Binds K (PySem.W.fnOf y y (defArgs st) (defBody st) (defScope st) .none kV doc pm an cdv ct) ps [] ∧ DefC { t with lamb := l } N ps F st ∧ (l = true → LamL P w K mg base t Q Tb ca cdv (y ++ ".<locals>."))
theorem tx_all (D : DefsOk t Q) (bt : ∀ x ∈ btNames, mg x = none)
    (xn : ∀ c y, t.xn c = some y → mg y = some (.ref (ca c)) ∧ PySem.W.keepIn K (.ref (ca c)) = true ∧ (∃ B nI iI bm, ExcBaseFacts B nI iI bm ∧ PySem.W.excIn K (ca c) bm nI = true) ∧
      PySem.W.subIn K (.ref (ca c)) (.type "BaseException") = some true ∧ PySem.W.typeIn K (.ref (ca c)) = some (.type "type"))
    (gl : ∀ k y d, t.gl k = some y → Q.glb k = some d → ∃ v u, mg y = some u ∧ RelV v u ∧ ∀ H, Dp K H v d) (rows : ∀ f y F, t.fn f = some y → Q.defs f = some F → RowOk P w K mg base t Q Tb ca f y F) : ∀ n, TxOk P w K mg base t Q Tb ca n := by
  have io : ∀ f y F, t.fn f = some y → Q.defs f = some F → F.io = t.io f ∧ F.own = t.own f := fun f y F h1 h2 => by
    obtain ⟨F', e1, e2, e3⟩ := D f y h1
    rw [h2] at e1
    cases e1
    exact ⟨e2, e3⟩
  have step : ∀ n, (∀ m, m < n → TxOk P w K mg base t Q Tb ca m) → TxOk P w K mg base t Q Tb ca n := by
    intro n ih
    refine ⟨bt, fun f y F h1 h2 => ?_, xn, gl⟩
    obtain ⟨ad, st, N, ps, l, oc, od, an, osl, kV, doc, pm, cdv, ct, a1, a2, a3, a4, a5, a6, a7⟩ := (rows f y F h1 h2).ex
    refine ⟨ad, _, ps, a1, a2, a5, ?_, io f y F h1 h2⟩
    cases n with
    | zero => exact fn_ok0 a6.np
    | succ n => exact fn_okS (t := { t with lamb := l }) (fun f y h => D f y h) (fun m hm => (ih m (by omega)).ofT) a3 a4 (fun z => ⟨(a7 z).fr, (a7 z).ln⟩) a6 h2
  intro n
  induction n using Nat.strongRecOn with
  | ind n ih => exact step n ih
end
/-- told, but the tables -/
def noTb (H : Hp) : Hp := fun b => match H b with
  | some (.tbl _) => none
  | o => o
theorem noTb_same (H : Hp) : Same (noTb H) H := fun b o e => by
  unfold noTb at e
  split at e
  · cases e
  · exact e
theorem noTb_ntb (H : Hp) (a : Addr) (ps : Array Value) : noTb H a ≠ some (.tbl ps) := fun e => by
  unfold noTb at e
  split at e
  · cases e
  · rename_i h
    exact h ps e
theorem noTb_keep {H : Hp} {b : Addr} {o : HO} (e : H b = some o) (n : ∀ ps, o ≠ .tbl ps) : noTb H b = some o := by
  unfold noTb
  rw [e]
  cases o <;> first | rfl | exact absurd rfl (n _)
theorem noTb_seq {K : PySem.W.Frag} {H : Hp} {a : Addr} {xs : List V} (h : SqL K H a xs) : SqL K (noTb H) a xs := by
  rcases h with (h | ⟨o, h⟩) | h
  · exact .inl (.inl (noTb_keep h fun ps z => by cases z))
  · exact .inl (.inr ⟨o, noTb_keep h fun ps z => by cases z⟩)
  · exact .inr h
theorem ints_dp {K : PySem.W.Frag} {H : Hp} : ∀ (ns : List Int), DpAll K H (ns.map V.int) (ns.map PyData.int)
  | [] => .nil
  | n :: ns => .cons (.int n) (ints_dp ns)
/-- the law's promise, from what its run is -/
theorem law_sp {K : PySem.W.Frag} {Tb : Tbs} {Q : Prog} {ca : Nat → Addr} {k f : Nat} {F : Df} {zs : List PyData} {H : Hp} {a : Addr} {ns : List Int} (hT : Tabs Tb H) (hS : SqL K H a (ns.map V.int)) (hio : F.io = false) (hown : F.own = false) (hnp : F.np = 1)
    (h : callF Q k f [.list (ns.map .int)] = .ok (.bool true, zs)) : spD K Tb Q ca k f F [.ref a] H (fun v _ => v = .bl true) fun _ _ _ => False := by
  have ea : argS F [.list (ns.map .int)] = [.val (.list (ns.map .int))] := by unfold argS; rw [hio]; rfl
  refine ⟨noTb H, [.list (ns.map .int)], ?_, hnp.symm, hnp.symm, ?_⟩
  · rw [ea]
    have w0 : WF K Tb [] [] (noTb H) H := ⟨noTb_same H, noTb_ntb H, hT, rfl, fun i d z => by simp at z, fun i d z => by simp at z, fun i j b o _ => by obtain ⟨⟨d, z⟩, _⟩ := o; simp at z⟩
    exact wf_vals w0 (.cons (.lst (noTb_seq hS) (ints_dp ns)) .nil)
  · rw [h]
    intro v k1 H1 _ _ hb
    unfold Back at hb
    rw [if_neg (by rw [hown]; exact Bool.false_ne_true)] at hb
    exact tt_of hb
/-- the law's promise at the head's heap -/
theorem law_at {lr : PySem.W.OpenLaw} {w : World} {K : PySem.W.Frag} {mg : Str → Option Value} {fa : Addr} {h : Heap} {n k : Nat} {x y : Str} {t : Tx} {Q : Prog} {Tb : Tbs} {ca : Nat → Addr} {fl : Nat} {F : Df} {N : List Str} {st : Stmt} {l : Bool}
    {oc : Value} {od an : Option Addr} {osl : Array (Option Value)} {kV doc pm cdv ct : Value} (KX : K.In h) (cs : List (Addr × Addr)) (hT : ∀ p ∈ cs, h.get? p.2 = some { cls := .none, data := .fields #[] }) (nT : ∀ p ∈ cs, K.lookup p.2 = none)
    (hC : ∀ p ∈ cs, PySem.W.codeHdIn K p.1 p.2 = true) (hTb : ∀ p ∈ Tb, p.1 ∈ cs.map (·.2))
    (lk : K.lookup fa = some ⟨oc, od, .func (PySem.W.fnOf y y (defArgs st) (defBody st) (defScope st) .none kV doc pm an cdv ct), osl⟩) (hcd : PySem.W.codeIn K cdv y = true) (D : DefsOk t Q) (Cd : DefC { t with lamb := l } N [x] F st) (hF : Q.defs fl = some F) (hio : F.io = false) (hown : F.own = false)
    (hb : ∀ (s : Shared) (u : Value), BindsTo s (PySem.W.fnOf y y (defArgs st) (defBody st) (defScope st) .none kV doc pm an cdv ct) ⟨[u], []⟩ [(x, u)])
    (tx : ∀ base : Heap, K.In base → base.Ns mainGlobals mg → (∀ p ∈ cs, TabB base mg p.1 p.2) → (∀ m, TxOk lr.prog w K mg base t Q Tb ca m) ∧ (l = true → LamL lr.prog w K mg base t Q Tb ca cdv (y ++ ".<locals>.")))
    (hlaw : ∀ ns : List Int, ns.length ≤ n → ∃ zs, callF Q (k + 1) fl [.list (ns.map .int)] = .ok (.bool true, zs)) : LawAtS lr w K (L2N.CX lr.prog w) (k + 1) n x mg fa h := by
  refine ⟨PySem.W.fnOf y y (defArgs st) (defBody st) (defScope st) .none kV doc pm an cdv ct, cs, spD K Tb Q ca (k + 1) fl F, hT, nT, fun p hp => PySem.W.codeHd_of_K KX (hC p hp), hb, fun H a ns hn _ hH hS => ?_, fun base hk hns hTB => ?_⟩
  · obtain ⟨zs, hz⟩ := hlaw ns hn
    refine law_sp (fun p hp => ?_) hS hio hown (by rw [← Cd.np]; rfl) hz
    obtain ⟨q, hq, e⟩ := List.mem_map.mp (hTb p hp)
    exact TabS.nil (by rw [← e]; exact hH q hq)
  · obtain ⟨t1, t2⟩ := tx base hk hns hTB
    exact fn_okS (t := { t with lamb := l }) (fun f y h => D f y h) (fun m _ => (t1 m).ofT) lk hcd (fun z => ⟨(t2 z).fr, (t2 z).ln⟩) Cd hF
theorem law_walk {l : PySem.W.OpenLaw} {n k : Nat} {q : Program} {loose : List Str} {XP : (Str → Option Value) → Heap → Prop} {YP : World → Heap → Prop} {d : DefRec} {K : Params → PySem.W.Frag} {x : Str} (hn : l.most = some n) (hn2 : n ≤ sizeLine) (hdf : d.params.defaults = []) (hr : Room k callerA)
    (hY : ∀ (w : World) (h : Heap), YP w h → (K w.params).In h)
    (F : ∀ (w : World) (mg : Str → Option Value) (fa : Addr) (h : Heap), YP w h → (K w.params).In h → h.Ns mainGlobals mg → mg d.name = some (.ref fa) → LawAtS l w (K w.params) (L2N.CX l.prog w) k n x mg fa h) :
    PySem.W.WalkO q loose XP YP l.row.toRowW d [] (fun f vs => PySem.call f vs) :=
  walk_ofTs (n := n) (k := k) (x := x) (CX := fun w => L2N.CX l.prog w) hn hn2 hdf hr hY F fun w H s e s' h => by
    obtain ⟨_, _, _, _, _, _, _, _, _, _, _, _, z⟩ := h
    exact z
end Fo

set_option Elab.async false
set_option linter.all false
set_option maxRecDepth 100000
set_option maxHeartbeats 4000000
/-! SemT2: small things for the texts that a program prints. -/
namespace Fo
open PySem L2 LamX PyProof.Rows L2H HotX
def seqO : List (Option PyData) → Option (List PyData)
  | [] => some []
  | some d :: r => (seqO r).map (d :: ·)
  | none :: _ => none
/-- a constant of the module, read off what the head has left -/
def dpK (K : PySem.W.Frag) : Nat → Value → Option PyData
  | _, .none => some .none
  | _, .bool b => some (.bool b)
  | _, .int i _ => some (.int i)
  | _, .str s _ => some (.str s)
  | n + 1, .ref a => match K.lookup a with
    | some ⟨.type "tuple", _, .seq its _, _⟩ => if its.size ≤ 16777216 then (seqO (its.toList.map (dpK K n))).map .tuple else none
    | some ⟨.type "list", none, .seq its _, _⟩ => if its.size ≤ 16777216 then (seqO (its.toList.map (dpK K n))).map .list else none
    | _ => none
  | _, _ => none
theorem seqO_dp {K : PySem.W.Frag} {f : Value → Option PyData} (hf : ∀ u d, f u = some d → ∃ v, RelV v u ∧ ∀ H, Dp K H v d) : ∀ {us : List Value} {ds : List PyData}, seqO (us.map f) = some ds → ∃ vs, Vals vs us ∧ ∀ H, DpAll K H vs ds
  | [], ds, h => by cases h; exact ⟨[], .nil, fun _ => .nil⟩
  | u :: us, ds, h => by
    rw [List.map_cons] at h
    cases e : f u with
    | none => rw [e] at h; cases h
    | some d =>
      rw [e] at h
      unfold seqO at h
      cases e2 : seqO (us.map f) with
      | none => rw [e2] at h; cases h
      | some r =>
        rw [e2] at h
        cases h
        obtain ⟨v, h1, h2⟩ := hf u d e
        obtain ⟨vs, h3, h4⟩ := seqO_dp hf e2
        exact ⟨v :: vs, .cons h1 h3, fun H => .cons (h2 H) (h4 H)⟩
theorem dpK_dp {K : PySem.W.Frag} : ∀ {n : Nat} (u : Value) (d : PyData), dpK K n u = some d → ∃ v, RelV v u ∧ ∀ H, Dp K H v d := by
  intro n
  induction n with
  | zero =>
    intro u d h
    cases u <;> first | (unfold dpK at h; cases h; done) | skip
    · unfold dpK at h; cases h; exact ⟨.non, rfl, fun _ => .non⟩
    · unfold dpK at h; cases h; exact ⟨.bl _, rfl, fun _ => .bl _⟩
    · unfold dpK at h; cases h; exact ⟨.int _, ⟨_, rfl⟩, fun _ => .int _⟩
    · unfold dpK at h; cases h; exact ⟨.str _, ⟨_, rfl⟩, fun _ => .str _⟩
  | succ n ih =>
    intro u d h
    cases u with
    | none => unfold dpK at h; cases h; exact ⟨.non, rfl, fun _ => .non⟩
    | bool b => unfold dpK at h; cases h; exact ⟨.bl _, rfl, fun _ => .bl _⟩
    | int i t => unfold dpK at h; cases h; exact ⟨.int _, ⟨_, rfl⟩, fun _ => .int _⟩
    | str s t => unfold dpK at h; cases h; exact ⟨.str _, ⟨_, rfl⟩, fun _ => .str _⟩
    | ref a =>
      unfold dpK at h
      split at h
      · rename_i its nn sl e
        by_cases hl : its.size ≤ 16777216
        · rw [if_pos hl] at h
          cases e2 : seqO (its.toList.map (dpK K n)) with
          | none => rw [e2] at h; cases h
          | some ds =>
            rw [e2] at h
            cases h
            obtain ⟨vs, h1, h2⟩ := seqO_dp (fun u d => ih u d) e2
            exact ⟨.ref a, rfl, fun H => .tup (.inr ⟨_, its, _, e, rfl, rfl, by rw [line_eq]; exact hl, h1⟩) (h2 H)⟩
        · rw [if_neg hl] at h; cases h
      · rename_i its nn sl e
        by_cases hl : its.size ≤ 16777216
        · rw [if_pos hl] at h
          cases e2 : seqO (its.toList.map (dpK K n)) with
          | none => rw [e2] at h; cases h
          | some ds =>
            rw [e2] at h
            cases h
            obtain ⟨vs, h1, h2⟩ := seqO_dp (fun u d => ih u d) e2
            exact ⟨.ref a, rfl, fun H => .lst (.inr ⟨_, its, _, e, rfl, rfl, rfl, by rw [line_eq]; exact hl, h1⟩) (h2 H)⟩
        · rw [if_neg hl] at h; cases h
      · cases h
    | _ => unfold dpK at h; cases h
/-- a table by numbers -/
def asc {α : Type} : List (Nat × α) → Nat → Option α
  | [], _ => none
  | (k, v) :: r, f => bif Nat.beq k f then some v else asc r f
theorem asc_mem {α : Type} : ∀ {l : List (Nat × α)} {f : Nat} {y : α}, asc l f = some y → (f, y) ∈ l
  | [], f, y, h => by cases h
  | (k, v) :: r, f, y, h => by
    unfold asc at h
    cases e : Nat.beq k f with
    | true => rw [e] at h; cases h; rw [Nat.eq_of_beq_eq_true e]; exact .head _
    | false => rw [e] at h; exact .tail _ (asc_mem h)
def defsB (fnL : List (Nat × Str)) (dfL : List (Nat × Df)) (ioL ownL : List Nat) : Bool := fnL.all fun p => match asc dfL p.1 with
  | some F => F.io == ioL.contains p.1 && F.own == ownL.contains p.1
  | none => false
theorem defs_of {t : Tx} {Q : Prog} {fnL : List (Nat × Str)} {dfL : List (Nat × Df)} {ioL ownL : List Nat} (h1 : t.fn = asc fnL) (h2 : Q.defs = asc dfL) (h3 : t.io = fun f => ioL.contains f) (h4 : t.own = fun f => ownL.contains f)
    (h : defsB fnL dfL ioL ownL = true) : DefsOk t Q := by
  intro f y hy
  rw [h1] at hy
  have q := List.all_eq_true.mp h _ (asc_mem hy)
  dsimp only at q
  cases e : asc dfL f with
  | none => rw [e] at q; cases q
  | some F =>
    rw [e] at q
    simp only [Bool.and_eq_true, beq_iff_eq] at q
    exact ⟨F, by rw [h2]; exact e, by rw [h3]; exact q.1, by rw [h4]; exact q.2⟩
theorem tests_of {mg : Str → Option Value} {cs : List Str} {cvs : List Value} (h : cs.length = cvs.length) (hh : ∀ p ∈ cs.zip cvs, ClsV mg p.1 p.2) : Tests mg cs cvs := ⟨h, fun i c cv h1 h2 => hh (c, cv) (by
  have : (cs.zip cvs)[i]? = some (c, cv) := by rw [List.getElem?_zip_eq_some]; exact ⟨h1, h2⟩
  exact List.mem_of_getElem? this)⟩
end Fo

set_option Elab.async false
set_option linter.all false
set_option maxRecDepth 100000
set_option maxHeartbeats 4000000
/-! SemP: the evaluator step by step, in a form by which simp runs it from left to right (no step stands under a binder). -/
namespace Fo
open PySem
abbrev RE := R (D × Rho)
@[simp] theorem bind_ok {α β : Type} {a : α} {f : α → R β} : (R.ok a).bind f = f a := (rfl)
@[simp] theorem bind_exc {α β : Type} {c : Nat} {f : α → R β} : (R.exc c).bind f = .exc c := (rfl)
@[simp] theorem bind_bad {α β : Type} {f : α → R β} : (R.bad).bind f = .bad := (rfl)

def kV (o : Option D) (ρ : Rho) : RE := (ofOpt o).bind fun z => .ok (z, ρ)
@[simp] theorem kV_some (z : D) (ρ : Rho) : kV (some z) ρ = .ok (z, ρ) := (rfl)
@[simp] theorem kV_none (ρ : Rho) : kV none ρ = .bad := (rfl)

def kVar (s : Option Sl) (i : Nat) (ρ : Rho) : RE := match s with
  | some (.val d) => .ok (d, ρ)
  | some (.own (.list xs)) => .ok (.list xs, ρ.set i (.val (.list xs)))
  | _ => .bad
@[simp] theorem kVar_val (d : D) (i : Nat) (ρ : Rho) : kVar (some (.val d)) i ρ = .ok (d, ρ) := (rfl)
@[simp] theorem kVar_own (xs : List D) (i : Nat) (ρ : Rho) : kVar (some (.own (.list xs))) i ρ = .ok (.list xs, ρ.set i (.val (.list xs))) := (rfl)
@[simp] theorem evE_var (C : Ctx) (i : Nat) (ρ : Rho) : evE C (.var i) ρ = kVar ρ[i]? i ρ := by rw [evE]; rfl
@[simp] theorem evE_cst (C : Ctx) (d : D) (ρ : Rho) : evE C (.cst d) ρ = .ok (d, ρ) := by rw [evE]
@[simp] theorem evE_glb (C : Ctx) (k : Nat) (ρ : Rho) : evE C (.glb k) ρ = kV (C.glb k) ρ := by rw [evE]; rfl

def kBin2 (r : RE) (o : BOp) (x : D) : RE := r.bind fun (y, ρ2) => kV (binD o x y) ρ2
@[simp] theorem kBin2_ok (y : D) (ρ : Rho) (o : BOp) (x : D) : kBin2 (.ok (y, ρ)) o x = kV (binD o x y) ρ := (rfl)
@[simp] theorem kBin2_exc (c : Nat) (o : BOp) (x : D) : kBin2 (.exc c) o x = .exc c := (rfl)
def kBin (r : RE) (C : Ctx) (o : BOp) (b : Ex) : RE := r.bind fun (x, ρ1) => kBin2 (evE C b ρ1) o x
@[simp] theorem kBin_ok (x : D) (ρ : Rho) (C : Ctx) (o : BOp) (b : Ex) : kBin (.ok (x, ρ)) C o b = kBin2 (evE C b ρ) o x := (rfl)
@[simp] theorem kBin_exc (c : Nat) (C : Ctx) (o : BOp) (b : Ex) : kBin (.exc c) C o b = .exc c := (rfl)
@[simp] theorem evE_bin (C : Ctx) (o : BOp) (a b : Ex) (ρ : Rho) : evE C (.bin o a b) ρ = kBin (evE C a ρ) C o b := by rw [evE]; rfl

def pk (C : Ctx) (a b : Ex) (ρ : Rho) : RE := peekB a b (evE C a) ρ
def pkV (s : Option Sl) (i : Nat) (b : Ex) (ρ : Rho) : RE := match s with
  | some (.val d) => .ok (d, ρ)
  | some (.own (.list xs)) => if occ i b = true then .bad else .ok (.list xs, ρ)
  | _ => .bad
@[simp] theorem pkV_val (d : D) (i : Nat) (b : Ex) (ρ : Rho) : pkV (some (.val d)) i b ρ = .ok (d, ρ) := (rfl)
@[simp] theorem pkV_own (xs : List D) (i : Nat) (b : Ex) (ρ : Rho) : pkV (some (.own (.list xs))) i b ρ = if occ i b = true then .bad else .ok (.list xs, ρ) := (rfl)
@[simp] theorem pk_var (C : Ctx) (i : Nat) (b : Ex) (ρ : Rho) : pk C (.var i) b ρ = pkV ρ[i]? i b ρ := by
  unfold pk
  have e : peekB (.var i) b (evE C (.var i)) ρ = match ρ[i]? with
    | some (.own (.list xs)) => if occ i b = true then .bad else .ok (.list xs, ρ)
    | _ => evE C (.var i) ρ := rfl
  rw [e, evE_var]
  generalize ρ[i]? = q
  cases q with
  | none => rfl
  | some s => cases s with
    | no => rfl
    | val d => rfl
    | own d => cases d <;> rfl
@[simp] theorem pk_cst (C : Ctx) (d : D) (z : Ex) (ρ : Rho) : pk C (.cst d) z ρ = evE C (.cst d) ρ := (rfl)
@[simp] theorem pk_glb (C : Ctx) (k : Nat) (z : Ex) (ρ : Rho) : pk C (.glb k) z ρ = evE C (.glb k) ρ := (rfl)
@[simp] theorem pk_bin (C : Ctx) (o : BOp) (a b : Ex) (z : Ex) (ρ : Rho) : pk C (.bin o a b) z ρ = evE C (.bin o a b) ρ := (rfl)
@[simp] theorem pk_cmp (C : Ctx) (o : COp) (a b : Ex) (z : Ex) (ρ : Rho) : pk C (.cmp o a b) z ρ = evE C (.cmp o a b) ρ := (rfl)
@[simp] theorem pk_isN (C : Ctx) (g : Bool) (a : Ex) (z : Ex) (ρ : Rho) : pk C (.isN g a) z ρ = evE C (.isN g a) ρ := (rfl)
@[simp] theorem pk_isB (C : Ctx) (g h : Bool) (a : Ex) (z : Ex) (ρ : Rho) : pk C (.isB g h a) z ρ = evE C (.isB g h a) ρ := (rfl)
@[simp] theorem pk_rev (C : Ctx) (a : Ex) (z : Ex) (ρ : Rho) : pk C (.rev a) z ρ = evE C (.rev a) ρ := (rfl)
@[simp] theorem pk_and (C : Ctx) (a b : Ex) (z : Ex) (ρ : Rho) : pk C (.and a b) z ρ = evE C (.and a b) ρ := (rfl)
@[simp] theorem pk_or (C : Ctx) (a b : Ex) (z : Ex) (ρ : Rho) : pk C (.or a b) z ρ = evE C (.or a b) ρ := (rfl)
@[simp] theorem pk_not (C : Ctx) (a : Ex) (z : Ex) (ρ : Rho) : pk C (.not a) z ρ = evE C (.not a) ρ := (rfl)
@[simp] theorem pk_tru (C : Ctx) (a : Ex) (z : Ex) (ρ : Rho) : pk C (.tru a) z ρ = evE C (.tru a) ρ := (rfl)
@[simp] theorem pk_neg (C : Ctx) (a : Ex) (z : Ex) (ρ : Rho) : pk C (.neg a) z ρ = evE C (.neg a) ρ := (rfl)
@[simp] theorem pk_ite (C : Ctx) (a b c : Ex) (z : Ex) (ρ : Rho) : pk C (.ite a b c) z ρ = evE C (.ite a b c) ρ := (rfl)
@[simp] theorem pk_tup (C : Ctx) (a : Ex) (z : Ex) (ρ : Rho) : pk C (.tup a) z ρ = evE C (.tup a) ρ := (rfl)
@[simp] theorem pk_lst (C : Ctx) (a : Ex) (z : Ex) (ρ : Rho) : pk C (.lst a) z ρ = evE C (.lst a) ρ := (rfl)
@[simp] theorem pk_lrep (C : Ctx) (a : Ex) (n : Nat) (z : Ex) (ρ : Rho) : pk C (.lrep a n) z ρ = evE C (.lrep a n) ρ := (rfl)
@[simp] theorem pk_ix (C : Ctx) (a b : Ex) (z : Ex) (ρ : Rho) : pk C (.ix a b) z ρ = evE C (.ix a b) ρ := (rfl)
@[simp] theorem pk_sl (C : Ctx) (a b c : Ex) (z : Ex) (ρ : Rho) : pk C (.sl a b c) z ρ = evE C (.sl a b c) ρ := (rfl)
@[simp] theorem pk_call (C : Ctx) (f : Nat) (a : Ex) (z : Ex) (ρ : Rho) : pk C (.call f a) z ρ = evE C (.call f a) ρ := (rfl)
@[simp] theorem pk_callIo (C : Ctx) (f i : Nat) (a : Ex) (z : Ex) (ρ : Rho) : pk C (.callIo f i a) z ρ = evE C (.callIo f i a) ρ := (rfl)
@[simp] theorem pk_bi (C : Ctx) (b : Bi) (a : Ex) (z : Ex) (ρ : Rho) : pk C (.bi b a) z ρ = evE C (.bi b a) ρ := (rfl)
@[simp] theorem pk_isi (C : Ctx) (a : Ex) (t : Ty) (z : Ex) (ρ : Rho) : pk C (.isi a t) z ρ = evE C (.isi a t) ρ := (rfl)
@[simp] theorem pk_lc (C : Ctx) (t : Tg) (k : ItK) (a b c : Ex) (z : Ex) (ρ : Rho) : pk C (.lc t k a b c) z ρ = evE C (.lc t k a b c) ρ := (rfl)
@[simp] theorem pk_pop (C : Ctx) (i : Nat) (z : Ex) (ρ : Rho) : pk C (.pop i) z ρ = evE C (.pop i) ρ := (rfl)
@[simp] theorem pk_dix (C : Ctx) (ks : List Str) (a b : Ex) (z : Ex) (ρ : Rho) : pk C (.dix ks a b) z ρ = evE C (.dix ks a b) ρ := (rfl)
@[simp] theorem pk_dget (C : Ctx) (i : Nat) (a : Ex) (z : Ex) (ρ : Rho) : pk C (.dget i a) z ρ = evE C (.dget i a) ρ := (rfl)
@[simp] theorem pk_dgetN (C : Ctx) (i : Nat) (a : Ex) (z : Ex) (ρ : Rho) : pk C (.dgetN i a) z ρ = evE C (.dgetN i a) ρ := (rfl)
@[simp] theorem pk_din (C : Ctx) (i : Nat) (a : Ex) (z : Ex) (ρ : Rho) : pk C (.din i a) z ρ = evE C (.din i a) ρ := (rfl)
@[simp] theorem pk_mth (C : Ctx) (m : Me) (a b : Ex) (z : Ex) (ρ : Rho) : pk C (.mth m a b) z ρ = evE C (.mth m a b) ρ := (rfl)
@[simp] theorem pk_lam (C : Ctx) (f : Nat) (a : Ex) (z : Ex) (ρ : Rho) : pk C (.lam f a) z ρ = evE C (.lam f a) ρ := (rfl)
def kCmp2 (r : RE) (o : COp) (x : D) : RE := r.bind fun (y, ρ2) => kV (cmpD o x y) ρ2
@[simp] theorem kCmp2_ok (y : D) (ρ : Rho) (o : COp) (x : D) : kCmp2 (.ok (y, ρ)) o x = kV (cmpD o x y) ρ := (rfl)
@[simp] theorem kCmp2_exc (c : Nat) (o : COp) (x : D) : kCmp2 (.exc c) o x = .exc c := (rfl)
def kCmp (r : RE) (C : Ctx) (o : COp) (b : Ex) : RE := r.bind fun (x, ρ1) => kCmp2 (evE C b ρ1) o x
@[simp] theorem kCmp_ok (x : D) (ρ : Rho) (C : Ctx) (o : COp) (b : Ex) : kCmp (.ok (x, ρ)) C o b = kCmp2 (evE C b ρ) o x := (rfl)
@[simp] theorem kCmp_exc (c : Nat) (C : Ctx) (o : COp) (b : Ex) : kCmp (.exc c) C o b = .exc c := (rfl)
@[simp] theorem evE_cmp (C : Ctx) (o : COp) (a b : Ex) (ρ : Rho) : evE C (.cmp o a b) ρ = kCmp (pk C a b ρ) C o b := by rw [evE]; rfl

def kB (r : RE) : R (Bool × Rho) := r.bind boolR
@[simp] theorem kB_ok (t : Bool) (ρ : Rho) : kB (.ok (.bool t, ρ)) = .ok (t, ρ) := (rfl)
@[simp] theorem kB_exc (c : Nat) : kB (.exc c) = .exc c := (rfl)
def kIf {α : Type} (r : R (Bool × Rho)) (f g : Rho → R α) : R α := r.bind fun (t, ρ) => if t = true then f ρ else g ρ
def kCh3 (r : RE) (p : COp) (y : D) : RE := r.bind fun (w, ρ3) => kV (cmpD p y w) ρ3
@[simp] theorem kCh3_ok (w : D) (ρ : Rho) (p : COp) (y : D) : kCh3 (.ok (w, ρ)) p y = kV (cmpD p y w) ρ := (rfl)
def kCh2 (r : R (Bool × Rho)) (C : Ctx) (p : COp) (y : D) (c : Ex) : RE := r.bind fun (t, ρ2) => if t = true then kCh3 (evE C c ρ2) p y else .ok (.bool false, ρ2)
@[simp] theorem kCh2_t (ρ : Rho) (C : Ctx) (p : COp) (y : D) (c : Ex) : kCh2 (.ok (true, ρ)) C p y c = kCh3 (evE C c ρ) p y := (rfl)
@[simp] theorem kCh2_f (ρ : Rho) (C : Ctx) (p : COp) (y : D) (c : Ex) : kCh2 (.ok (false, ρ)) C p y c = .ok (.bool false, ρ) := (rfl)
def kCh1 (r : RE) (C : Ctx) (o p : COp) (x : D) (c : Ex) : RE := r.bind fun (y, ρ2) => kCh2 (kB (kV (cmpD o x y) ρ2)) C p y c
@[simp] theorem kCh1_ok (y : D) (ρ : Rho) (C : Ctx) (o p : COp) (x : D) (c : Ex) : kCh1 (.ok (y, ρ)) C o p x c = kCh2 (kB (kV (cmpD o x y) ρ)) C p y c := (rfl)
def kCh (r : RE) (C : Ctx) (o p : COp) (b c : Ex) : RE := r.bind fun (x, ρ1) => kCh1 (evE C b ρ1) C o p x c
@[simp] theorem kCh_ok (x : D) (ρ : Rho) (C : Ctx) (o p : COp) (b c : Ex) : kCh (.ok (x, ρ)) C o p b c = kCh1 (evE C b ρ) C o p x c := (rfl)
@[simp] theorem evE_chain (C : Ctx) (o p : COp) (a b c : Ex) (ρ : Rho) : evE C (.chain o p a b c) ρ = kCh (evE C a ρ) C o p b c := by
  rw [evE]
  unfold kCh
  congr 1
  funext ⟨x, ρ1⟩
  unfold kCh1
  dsimp only
  congr 1
  funext ⟨y, ρ2⟩
  unfold kCh2 kB kV
  dsimp only
  rw [R.bind_assoc, R.bind_assoc]
  rfl

def kIsN (r : RE) (neg : Bool) : RE := r.bind fun (x, ρ1) => .ok (.bool (match x with | .none => !neg | _ => neg), ρ1)
def isNb (neg : Bool) (x : D) : Bool := match x with | .none => !neg | _ => neg
@[simp] theorem isNb_none (neg : Bool) : isNb neg .none = !neg := (rfl)
@[simp] theorem isNb_bool (neg b : Bool) : isNb neg (.bool b) = neg := (rfl)
@[simp] theorem isNb_int (neg : Bool) (b : Int) : isNb neg (.int b) = neg := (rfl)
@[simp] theorem isNb_str (neg : Bool) (b : Str) : isNb neg (.str b) = neg := (rfl)
@[simp] theorem isNb_list (neg : Bool) (b : List D) : isNb neg (.list b) = neg := (rfl)
@[simp] theorem isNb_tuple (neg : Bool) (b : List D) : isNb neg (.tuple b) = neg := (rfl)
@[simp] theorem kIsN_ok (x : D) (ρ : Rho) (neg : Bool) : kIsN (.ok (x, ρ)) neg = .ok (.bool (isNb neg x), ρ) := (rfl)
@[simp] theorem evE_isN (C : Ctx) (neg : Bool) (a : Ex) (ρ : Rho) : evE C (.isN neg a) ρ = kIsN (evE C a ρ) neg := by rw [evE]; rfl
def kF (r : RE) (f : D → Option D) : RE := r.bind fun (x, ρ1) => kV (f x) ρ1
@[simp] theorem kF_ok (x : D) (ρ : Rho) (f : D → Option D) : kF (.ok (x, ρ)) f = kV (f x) ρ := (rfl)
@[simp] theorem kF_exc (c : Nat) (f : D → Option D) : kF (.exc c) f = .exc c := (rfl)
@[simp] theorem evE_isB (C : Ctx) (neg b : Bool) (a : Ex) (ρ : Rho) : evE C (.isB neg b a) ρ = kF (evE C a ρ) (isBd neg b) := by rw [evE]; rfl
@[simp] theorem evE_rev (C : Ctx) (a : Ex) (ρ : Rho) : evE C (.rev a) ρ = kF (evE C a ρ) revD := by rw [evE]; rfl
def isD' (t : Ty) (x : D) : Option D := isD x t
@[simp] theorem isD'_eq (t : Ty) (x : D) : isD' t x = isD x t := (rfl)
@[simp] theorem evE_isi (C : Ctx) (a : Ex) (t : Ty) (ρ : Rho) : evE C (.isi a t) ρ = kF (evE C a ρ) (isD' t) := by rw [evE]; rfl
def negD : D → Option D
  | .int i => some (.int (-i))
  | _ => none
@[simp] theorem negD_int (i : Int) : negD (.int i) = some (.int (-i)) := (rfl)
@[simp] theorem evE_neg (C : Ctx) (a : Ex) (ρ : Rho) : evE C (.neg a) ρ = kF (evE C a ρ) negD := by
  rw [evE]; unfold kF; congr 1; funext ⟨x, ρ1⟩; cases x <;> rfl
def truD (x : D) : Option D := (truthD x).map .bool
@[simp] theorem truD_eq (x : D) : truD x = (truthD x).map .bool := (rfl)
@[simp] theorem evE_tru (C : Ctx) (a : Ex) (ρ : Rho) : evE C (.tru a) ρ = kF (evE C a ρ) truD := by
  rw [evE]; unfold kF; congr 1; funext ⟨x, ρ1⟩; unfold truD kV; dsimp only; cases truthD x <;> rfl
def kAnd (r : R (Bool × Rho)) (C : Ctx) (b : Ex) : RE := r.bind fun (t, ρ1) => if t = true then evE C b ρ1 else .ok (.bool false, ρ1)
@[simp] theorem kAnd_t (ρ : Rho) (C : Ctx) (b : Ex) : kAnd (.ok (true, ρ)) C b = evE C b ρ := (rfl)
@[simp] theorem kAnd_f (ρ : Rho) (C : Ctx) (b : Ex) : kAnd (.ok (false, ρ)) C b = .ok (.bool false, ρ) := (rfl)
@[simp] theorem evE_and (C : Ctx) (a b : Ex) (ρ : Rho) : evE C (.and a b) ρ = kAnd (kB (evE C a ρ)) C b := by rw [evE]; rfl
def kOr (r : R (Bool × Rho)) (C : Ctx) (b : Ex) : RE := r.bind fun (t, ρ1) => if t = true then .ok (.bool true, ρ1) else evE C b ρ1
@[simp] theorem kOr_t (ρ : Rho) (C : Ctx) (b : Ex) : kOr (.ok (true, ρ)) C b = .ok (.bool true, ρ) := (rfl)
@[simp] theorem kOr_f (ρ : Rho) (C : Ctx) (b : Ex) : kOr (.ok (false, ρ)) C b = evE C b ρ := (rfl)
@[simp] theorem evE_or (C : Ctx) (a b : Ex) (ρ : Rho) : evE C (.or a b) ρ = kOr (kB (evE C a ρ)) C b := by rw [evE]; rfl
def kNot (r : R (Bool × Rho)) : RE := r.bind fun (t, ρ1) => .ok (.bool (!t), ρ1)
@[simp] theorem kNot_ok (t : Bool) (ρ : Rho) : kNot (.ok (t, ρ)) = .ok (.bool (!t), ρ) := (rfl)
@[simp] theorem evE_not (C : Ctx) (a : Ex) (ρ : Rho) : evE C (.not a) ρ = kNot (kB (evE C a ρ)) := by rw [evE]; rfl
def kIte (r : R (Bool × Rho)) (C : Ctx) (a b : Ex) : RE := r.bind fun (t, ρ1) => if t = true then evE C a ρ1 else evE C b ρ1
@[simp] theorem kIte_t (ρ : Rho) (C : Ctx) (a b : Ex) : kIte (.ok (true, ρ)) C a b = evE C a ρ := (rfl)
@[simp] theorem kIte_f (ρ : Rho) (C : Ctx) (a b : Ex) : kIte (.ok (false, ρ)) C a b = evE C b ρ := (rfl)
@[simp] theorem evE_ite (C : Ctx) (c a b : Ex) (ρ : Rho) : evE C (.ite c a b) ρ = kIte (kB (evE C c ρ)) C a b := by rw [evE]; rfl

abbrev RA := R (List D × Rho)
def kCons2 (r : RA) (x : D) : RA := r.bind fun (xs, ρ2) => .ok (x :: xs, ρ2)
@[simp] theorem kCons2_ok (xs : List D) (ρ : Rho) (x : D) : kCons2 (.ok (xs, ρ)) x = .ok (x :: xs, ρ) := (rfl)
@[simp] theorem kCons2_exc (c : Nat) (x : D) : kCons2 (.exc c) x = .exc c := (rfl)
def kCons (r : RE) (C : Ctx) (as : Ex) : RA := r.bind fun (x, ρ1) => kCons2 (evA C as ρ1) x
@[simp] theorem kCons_ok (x : D) (ρ : Rho) (C : Ctx) (as : Ex) : kCons (.ok (x, ρ)) C as = kCons2 (evA C as ρ) x := (rfl)
@[simp] theorem kCons_exc (c : Nat) (C : Ctx) (as : Ex) : kCons (.exc c) C as = .exc c := (rfl)
@[simp] theorem evA_nil (C : Ctx) (ρ : Rho) : evA C .nil ρ = .ok ([], ρ) := by rw [evA]
@[simp] theorem evA_cons (C : Ctx) (a as : Ex) (ρ : Rho) : evA C (.cons a as) ρ = kCons (evE C a ρ) C as := by rw [evA]; rfl
def kTup (r : RA) : RE := r.bind fun (xs, ρ1) => if xs.length ≤ line then .ok (.tuple xs, ρ1) else .bad
theorem kTup_ok (xs : List D) (ρ : Rho) (h : xs.length ≤ 16777216) : kTup (.ok (xs, ρ)) = .ok (.tuple xs, ρ) := if_pos h
@[simp] theorem kTup_0 (ρ : Rho) : kTup (.ok ([], ρ)) = .ok (.tuple [], ρ) := (rfl)
@[simp] theorem kTup_1 (a : D) (ρ : Rho) : kTup (.ok ([a], ρ)) = .ok (.tuple [a], ρ) := (rfl)
@[simp] theorem kTup_2 (a b : D) (ρ : Rho) : kTup (.ok ([a, b], ρ)) = .ok (.tuple [a, b], ρ) := (rfl)
@[simp] theorem kTup_3 (a b c : D) (ρ : Rho) : kTup (.ok ([a, b, c], ρ)) = .ok (.tuple [a, b, c], ρ) := (rfl)
@[simp] theorem kTup_4 (a b c d : D) (ρ : Rho) : kTup (.ok ([a, b, c, d], ρ)) = .ok (.tuple [a, b, c, d], ρ) := (rfl)
@[simp] theorem kTup_8 (a b c d e f g h : D) (ρ : Rho) : kTup (.ok ([a, b, c, d, e, f, g, h], ρ)) = .ok (.tuple [a, b, c, d, e, f, g, h], ρ) := (rfl)
@[simp] theorem evE_tup (C : Ctx) (as : Ex) (ρ : Rho) : evE C (.tup as) ρ = kTup (evA C as ρ) := by rw [evE]; rfl
def kLst (r : RA) : RE := r.bind fun (xs, ρ1) => if xs.length ≤ line then .ok (.list xs, ρ1) else .bad
theorem kLst_ok (xs : List D) (ρ : Rho) (h : xs.length ≤ 16777216) : kLst (.ok (xs, ρ)) = .ok (.list xs, ρ) := if_pos h
@[simp] theorem kLst_0 (ρ : Rho) : kLst (.ok ([], ρ)) = .ok (.list [], ρ) := (rfl)
@[simp] theorem kLst_1 (a : D) (ρ : Rho) : kLst (.ok ([a], ρ)) = .ok (.list [a], ρ) := (rfl)
@[simp] theorem kLst_2 (a b : D) (ρ : Rho) : kLst (.ok ([a, b], ρ)) = .ok (.list [a, b], ρ) := (rfl)
@[simp] theorem kLst_3 (a b c : D) (ρ : Rho) : kLst (.ok ([a, b, c], ρ)) = .ok (.list [a, b, c], ρ) := (rfl)
@[simp] theorem kLst_4 (a b c d : D) (ρ : Rho) : kLst (.ok ([a, b, c, d], ρ)) = .ok (.list [a, b, c, d], ρ) := (rfl)
@[simp] theorem kLst_5 (a b c d e : D) (ρ : Rho) : kLst (.ok ([a, b, c, d, e], ρ)) = .ok (.list [a, b, c, d, e], ρ) := (rfl)
@[simp] theorem kLst_6 (a b c d e f : D) (ρ : Rho) : kLst (.ok ([a, b, c, d, e, f], ρ)) = .ok (.list [a, b, c, d, e, f], ρ) := (rfl)
@[simp] theorem kLst_7 (a b c d e f g : D) (ρ : Rho) : kLst (.ok ([a, b, c, d, e, f, g], ρ)) = .ok (.list [a, b, c, d, e, f, g], ρ) := (rfl)
@[simp] theorem kLst_8 (a b c d e f g h : D) (ρ : Rho) : kLst (.ok ([a, b, c, d, e, f, g, h], ρ)) = .ok (.list [a, b, c, d, e, f, g, h], ρ) := (rfl)
@[simp] theorem kLst_9 (a b c d e f g h i : D) (ρ : Rho) : kLst (.ok ([a, b, c, d, e, f, g, h, i], ρ)) = .ok (.list [a, b, c, d, e, f, g, h, i], ρ) := (rfl)
@[simp] theorem kLst_10 (a b c d e f g h i j : D) (ρ : Rho) : kLst (.ok ([a, b, c, d, e, f, g, h, i, j], ρ)) = .ok (.list [a, b, c, d, e, f, g, h, i, j], ρ) := (rfl)
@[simp] theorem evE_lst (C : Ctx) (as : Ex) (ρ : Rho) : evE C (.lst as) ρ = kLst (evA C as ρ) := by rw [evE]; rfl
def kLrep (r : RA) (n : Nat) : RE := r.bind fun (xs, ρ1) => if xs.length ≤ 1000 ∧ n ≤ 1000 then .ok (.list (reps n xs), ρ1) else .bad
@[simp] theorem kLrep_ok (xs : List D) (ρ : Rho) (n : Nat) : kLrep (.ok (xs, ρ)) n = if xs.length ≤ 1000 ∧ n ≤ 1000 then .ok (.list (reps n xs), ρ) else .bad := (rfl)
@[simp] theorem evE_lrep (C : Ctx) (as : Ex) (n : Nat) (ρ : Rho) : evE C (.lrep as n) ρ = kLrep (evA C as ρ) n := by rw [evE]; rfl
def kIx2 (r : RE) (x : D) : RE := r.bind fun (y, ρ2) => kV (ixD x y) ρ2
@[simp] theorem kIx2_ok (y : D) (ρ : Rho) (x : D) : kIx2 (.ok (y, ρ)) x = kV (ixD x y) ρ := (rfl)
def kIx (r : RE) (C : Ctx) (b : Ex) : RE := r.bind fun (x, ρ1) => kIx2 (evE C b ρ1) x
@[simp] theorem kIx_ok (x : D) (ρ : Rho) (C : Ctx) (b : Ex) : kIx (.ok (x, ρ)) C b = kIx2 (evE C b ρ) x := (rfl)
@[simp] theorem kIx_exc (c : Nat) (C : Ctx) (b : Ex) : kIx (.exc c) C b = .exc c := (rfl)
@[simp] theorem evE_ix (C : Ctx) (a b : Ex) (ρ : Rho) : evE C (.ix a b) ρ = kIx (pk C a b ρ) C b := by rw [evE]; rfl
def kPrt (r : RE) : R (Option Int × Rho) := r.bind fun (x, ρ1) => (ofOpt (partD x)).bind fun p => .ok (p, ρ1)
@[simp] theorem kPrt_int (i : Int) (ρ : Rho) : kPrt (.ok (.int i, ρ)) = .ok (some i, ρ) := (rfl)
def kP (C : Ctx) (e : Ex) (ρ : Rho) : R (Option Int × Rho) := prtR (isZero e) (evE C e) ρ
@[simp] theorem kP_nil (C : Ctx) (ρ : Rho) : kP C .nil ρ = .ok (none, ρ) := (rfl)
@[simp] theorem kP_bin (C : Ctx) (o : BOp) (a b : Ex) (ρ : Rho) : kP C (.bin o a b) ρ = kPrt (evE C (.bin o a b) ρ) := (rfl)
@[simp] theorem kP_neg (C : Ctx) (a : Ex) (ρ : Rho) : kP C (.neg a) ρ = kPrt (evE C (.neg a) ρ) := (rfl)
@[simp] theorem kP_ix (C : Ctx) (a b : Ex) (ρ : Rho) : kP C (.ix a b) ρ = kPrt (evE C (.ix a b) ρ) := (rfl)
@[simp] theorem kP_call (C : Ctx) (f : Nat) (a : Ex) (ρ : Rho) : kP C (.call f a) ρ = kPrt (evE C (.call f a) ρ) := (rfl)
@[simp] theorem kP_callIo (C : Ctx) (f i : Nat) (a : Ex) (ρ : Rho) : kP C (.callIo f i a) ρ = kPrt (evE C (.callIo f i a) ρ) := (rfl)
@[simp] theorem kP_bi (C : Ctx) (b : Bi) (a : Ex) (ρ : Rho) : kP C (.bi b a) ρ = kPrt (evE C (.bi b a) ρ) := (rfl)
@[simp] theorem kP_var (C : Ctx) (i : Nat) (ρ : Rho) : kP C (.var i) ρ = kPrt (evE C (.var i) ρ) := (rfl)
@[simp] theorem kP_cst (C : Ctx) (i : Int) (ρ : Rho) : kP C (.cst (.int i)) ρ = .ok (some i, ρ) := by unfold kP prtR; simp [isZero, partD, ofOpt]
def kSl3 (r : R (Option Int × Rho)) (x : D) (l : Option Int) : RE := r.bind fun (h, ρ3) => kV (slD x l h) ρ3
@[simp] theorem kSl3_ok (h : Option Int) (ρ : Rho) (x : D) (l : Option Int) : kSl3 (.ok (h, ρ)) x l = kV (slD x l h) ρ := (rfl)
def kSl2 (r : R (Option Int × Rho)) (C : Ctx) (x : D) (hi : Ex) : RE := r.bind fun (l, ρ2) => kSl3 (kP C hi ρ2) x l
@[simp] theorem kSl2_ok (l : Option Int) (ρ : Rho) (C : Ctx) (x : D) (hi : Ex) : kSl2 (.ok (l, ρ)) C x hi = kSl3 (kP C hi ρ) x l := (rfl)
def kSl (r : RE) (C : Ctx) (lo hi : Ex) : RE := r.bind fun (x, ρ1) => kSl2 (kP C lo ρ1) C x hi
@[simp] theorem kSl_ok (x : D) (ρ : Rho) (C : Ctx) (lo hi : Ex) : kSl (.ok (x, ρ)) C lo hi = kSl2 (kP C lo ρ) C x hi := (rfl)
@[simp] theorem evE_sl (C : Ctx) (a lo hi : Ex) (ρ : Rho) : evE C (.sl a lo hi) ρ = kSl (evE C a ρ) C lo hi := by rw [evE]; rfl
def kCall2 (r : R (D × List D)) (ρ : Rho) : RE := r.bind fun (d, _) => .ok (d, ρ)
@[simp] theorem kCall2_ok (d : D) (zs : List D) (ρ : Rho) : kCall2 (.ok (d, zs)) ρ = .ok (d, ρ) := (rfl)
@[simp] theorem kCall2_exc (c : Nat) (ρ : Rho) : kCall2 (.exc c) ρ = .exc c := (rfl)
def kCall (r : RA) (C : Ctx) (f : Nat) : RE := r.bind fun (xs, ρ1) => kCall2 (C.call 0 f xs) ρ1
@[simp] theorem kCall_ok (xs : List D) (ρ : Rho) (C : Ctx) (f : Nat) : kCall (.ok (xs, ρ)) C f = kCall2 (C.call 0 f xs) ρ := (rfl)
@[simp] theorem kCall_exc (c : Nat) (C : Ctx) (f : Nat) : kCall (.exc c) C f = .exc c := (rfl)
@[simp] theorem evE_call (C : Ctx) (f : Nat) (as : Ex) (ρ : Rho) : evE C (.call f as) ρ = kCall (evA C as ρ) C f := by rw [evE]; rfl
@[simp] theorem ownAt_some (ρ : Rho) (i : Nat) (ys : List D) (h : ρ[i]? = some (.own (.list ys))) : ownAt ρ i = .ok ys := by unfold ownAt; rw [h]
def kIo3 (r : R (D × List D)) (i : Nat) (ρ : Rho) : RE := r.bind fun (d, zs) => .ok (d, ρ.set i (.own (.list zs)))
@[simp] theorem kIo3_ok (d : D) (zs : List D) (i : Nat) (ρ : Rho) : kIo3 (.ok (d, zs)) i ρ = .ok (d, ρ.set i (.own (.list zs))) := (rfl)
def ownO (s : Option Sl) : R (List D) := match s with
  | some (.own (.list ys)) => .ok ys
  | _ => .bad
@[simp] theorem ownO_own (ys : List D) : ownO (some (.own (.list ys))) = .ok ys := (rfl)
theorem ownAt_eq (ρ : Rho) (i : Nat) : ownAt ρ i = ownO ρ[i]? := (rfl)
def kIo2b (r : R (List D)) (C : Ctx) (f i : Nat) (xs : List D) (ρ : Rho) : RE := r.bind fun ys => kIo3 (C.call 0 f (.list ys :: xs)) i ρ
@[simp] theorem kIo2b_ok (ys : List D) (C : Ctx) (f i : Nat) (xs : List D) (ρ : Rho) : kIo2b (.ok ys) C f i xs ρ = kIo3 (C.call 0 f (.list ys :: xs)) i ρ := (rfl)
def kIo2 (r : RA) (C : Ctx) (f i : Nat) : RE := r.bind fun (xs, ρ1) => kIo2b (ownO ρ1[i]?) C f i xs ρ1
@[simp] theorem kIo2_ok (xs : List D) (ρ : Rho) (C : Ctx) (f i : Nat) : kIo2 (.ok (xs, ρ)) C f i = kIo2b (ownO ρ[i]?) C f i xs ρ := (rfl)
def kIo (r : R (List D)) (C : Ctx) (f i : Nat) (as : Ex) (ρ : Rho) : RE := r.bind fun _ => kIo2 (evA C as ρ) C f i
@[simp] theorem kIo_ok (ys : List D) (C : Ctx) (f i : Nat) (as : Ex) (ρ : Rho) : kIo (.ok ys) C f i as ρ = kIo2 (evA C as ρ) C f i := (rfl)
@[simp] theorem evE_callIo (C : Ctx) (f i : Nat) (as : Ex) (ρ : Rho) : evE C (.callIo f i as) ρ = kIo (ownO ρ[i]?) C f i as ρ := by rw [evE]; rfl
def pkL (C : Ctx) (b : Bi) (as : Ex) (ρ : Rho) : RA := peekL b as (evA C as) ρ
def kBi (r : RA) (b : Bi) : RE := r.bind fun (xs, ρ1) => kV (biD b xs) ρ1
@[simp] theorem kBi_ok (xs : List D) (ρ : Rho) (b : Bi) : kBi (.ok (xs, ρ)) b = kV (biD b xs) ρ := (rfl)
@[simp] theorem evE_bi (C : Ctx) (b : Bi) (as : Ex) (ρ : Rho) : evE C (.bi b as) ρ = kBi (pkL C b as ρ) b := by rw [evE]; rfl
def pkLV (s : Option Sl) (ρ : Rho) : RA := match s with
  | some (.val d) => .ok ([d], ρ)
  | some (.own (.list xs)) => .ok ([.list xs], ρ)
  | _ => .bad
@[simp] theorem pkLV_val (d : D) (ρ : Rho) : pkLV (some (.val d)) ρ = .ok ([d], ρ) := (rfl)
@[simp] theorem pkLV_own (xs : List D) (ρ : Rho) : pkLV (some (.own (.list xs))) ρ = .ok ([.list xs], ρ) := (rfl)
@[simp] theorem pkL_var (C : Ctx) (i : Nat) (ρ : Rho) : pkL C .len (.cons (.var i) .nil) ρ = pkLV ρ[i]? ρ := by
  unfold pkL
  have e : peekL .len (.cons (.var i) .nil) (evA C (.cons (.var i) .nil)) ρ = match ρ[i]? with
    | some (.own (.list xs)) => .ok ([.list xs], ρ)
    | _ => evA C (.cons (.var i) .nil) ρ := rfl
  rw [e, evA_cons, evE_var]
  generalize ρ[i]? = q
  cases q with
  | none => rfl
  | some s => cases s with
    | no => rfl
    | val d => simp
    | own d => cases d <;> rfl
@[simp] theorem pkL_abs (C : Ctx) (as : Ex) (ρ : Rho) : pkL C .abs as ρ = evA C as ρ := (rfl)
@[simp] theorem pkL_int (C : Ctx) (as : Ex) (ρ : Rho) : pkL C .int as ρ = evA C as ρ := (rfl)
@[simp] theorem pkL_str (C : Ctx) (as : Ex) (ρ : Rho) : pkL C .str as ρ = evA C as ρ := (rfl)
@[simp] theorem pkL_list (C : Ctx) (as : Ex) (ρ : Rho) : pkL C .list as ρ = evA C as ρ := (rfl)
@[simp] theorem pkL_tuple (C : Ctx) (as : Ex) (ρ : Rho) : pkL C .tuple as ρ = evA C as ρ := (rfl)
@[simp] theorem pkL_all (C : Ctx) (as : Ex) (ρ : Rho) : pkL C .all as ρ = evA C as ρ := (rfl)
@[simp] theorem pkL_any (C : Ctx) (as : Ex) (ρ : Rho) : pkL C .any as ρ = evA C as ρ := (rfl)
@[simp] theorem pkL_bool (C : Ctx) (as : Ex) (ρ : Rho) : pkL C .bool as ρ = evA C as ρ := (rfl)
@[simp] theorem pkL_min2 (C : Ctx) (as : Ex) (ρ : Rho) : pkL C .min2 as ρ = evA C as ρ := (rfl)
@[simp] theorem pkL_sset (C : Ctx) (as : Ex) (ρ : Rho) : pkL C .sset as ρ = evA C as ρ := (rfl)
@[simp] theorem pkL_lset (C : Ctx) (as : Ex) (ρ : Rho) : pkL C .lset as ρ = evA C as ρ := (rfl)
@[simp] theorem pkL_minl (C : Ctx) (as : Ex) (ρ : Rho) : pkL C .minl as ρ = evA C as ρ := (rfl)
@[simp] theorem pkL_sorted (C : Ctx) (as : Ex) (ρ : Rho) : pkL C .sorted as ρ = evA C as ρ := (rfl)
@[simp] theorem pkL_l_cst (C : Ctx) (d : D) (ρ : Rho) : pkL C .len (.cons (.cst d) .nil) ρ = evA C (.cons (.cst d) .nil) ρ := (rfl)
@[simp] theorem pkL_l_glb (C : Ctx) (k : Nat) (ρ : Rho) : pkL C .len (.cons (.glb k) .nil) ρ = evA C (.cons (.glb k) .nil) ρ := (rfl)
@[simp] theorem pkL_l_bin (C : Ctx) (o : BOp) (a b : Ex) (ρ : Rho) : pkL C .len (.cons (.bin o a b) .nil) ρ = evA C (.cons (.bin o a b) .nil) ρ := (rfl)
@[simp] theorem pkL_l_rev (C : Ctx) (a : Ex) (ρ : Rho) : pkL C .len (.cons (.rev a) .nil) ρ = evA C (.cons (.rev a) .nil) ρ := (rfl)
@[simp] theorem pkL_l_tup (C : Ctx) (a : Ex) (ρ : Rho) : pkL C .len (.cons (.tup a) .nil) ρ = evA C (.cons (.tup a) .nil) ρ := (rfl)
@[simp] theorem pkL_l_lst (C : Ctx) (a : Ex) (ρ : Rho) : pkL C .len (.cons (.lst a) .nil) ρ = evA C (.cons (.lst a) .nil) ρ := (rfl)
@[simp] theorem pkL_l_ix (C : Ctx) (a b : Ex) (ρ : Rho) : pkL C .len (.cons (.ix a b) .nil) ρ = evA C (.cons (.ix a b) .nil) ρ := (rfl)
@[simp] theorem pkL_l_sl (C : Ctx) (a b c : Ex) (ρ : Rho) : pkL C .len (.cons (.sl a b c) .nil) ρ = evA C (.cons (.sl a b c) .nil) ρ := (rfl)
@[simp] theorem pkL_l_call (C : Ctx) (f : Nat) (a : Ex) (ρ : Rho) : pkL C .len (.cons (.call f a) .nil) ρ = evA C (.cons (.call f a) .nil) ρ := (rfl)
@[simp] theorem pkL_l_bi (C : Ctx) (b : Bi) (a : Ex) (ρ : Rho) : pkL C .len (.cons (.bi b a) .nil) ρ = evA C (.cons (.bi b a) .nil) ρ := (rfl)
@[simp] theorem pkL_l_lc (C : Ctx) (t : Tg) (k : ItK) (a b c : Ex) (ρ : Rho) : pkL C .len (.cons (.lc t k a b c) .nil) ρ = evA C (.cons (.lc t k a b c) .nil) ρ := (rfl)
def kPop (r : R (List D)) (i : Nat) (ρ : Rho) : RE := r.bind fun ys => match ys with
    | x :: xs => .ok (x, ρ.set i (.own (.list xs)))
    | [] => .bad
@[simp] theorem kPop_cons (x : D) (xs : List D) (i : Nat) (ρ : Rho) : kPop (.ok (x :: xs)) i ρ = .ok (x, ρ.set i (.own (.list xs))) := (rfl)
@[simp] theorem evE_pop (C : Ctx) (i : Nat) (ρ : Rho) : evE C (.pop i) ρ = kPop (ownO ρ[i]?) i ρ := by rw [evE]; rfl
def kDict (r : RA) (ks : List Str) : RE := r.bind fun (xs, ρ1) => (ofOpt (mkDict ks xs)).bind fun kvs => .ok (.dict kvs, ρ1)
@[simp] theorem kDict_ok (xs : List D) (ρ : Rho) (ks : List Str) : kDict (.ok (xs, ρ)) ks = (ofOpt (mkDict ks xs)).bind fun kvs => .ok (.dict kvs, ρ) := (rfl)
@[simp] theorem evE_dict (C : Ctx) (ks : List Str) (vs : Ex) (ρ : Rho) : evE C (.dict ks vs) ρ = kDict (evA C vs ρ) ks := by rw [evE]; rfl
def lookO (kvs : Option (List (D × D))) (y : D) : Option D := kvs.bind fun kvs => if isStr y = true then lookS kvs y else none
def kDix2 (r : RE) (kvs : Option (List (D × D))) : RE := r.bind fun (y, ρ2) => kV (lookO kvs y) ρ2
@[simp] theorem kDix2_ok (y : D) (ρ : Rho) (kvs : Option (List (D × D))) : kDix2 (.ok (y, ρ)) kvs = kV (lookO kvs y) ρ := (rfl)
def kDix (r : RA) (C : Ctx) (ks : List Str) (k : Ex) : RE := r.bind fun (xs, ρ1) => match mkDict ks xs with
  | some kvs => kDix2 (evE C k ρ1) (some kvs)
  | none => .bad
theorem kDix_ok (xs : List D) (ρ : Rho) (C : Ctx) (ks : List Str) (k : Ex) {kvs : List (D × D)} (h : mkDict ks xs = some kvs) : kDix (.ok (xs, ρ)) C ks k = kDix2 (evE C k ρ) (some kvs) := by unfold kDix; rw [bind_ok]; dsimp only; rw [h]
@[simp] theorem evE_dix (C : Ctx) (ks : List Str) (vs k : Ex) (ρ : Rho) : evE C (.dix ks vs k) ρ = kDix (evA C vs ρ) C ks k := by
  rw [evE]; unfold kDix; congr 1; funext ⟨xs, ρ1⟩; dsimp only
  cases mkDict ks xs with
  | none => rfl
  | some kvs =>
    simp only [ofOpt, bind_ok]
    unfold kDix2
    congr 1
    funext ⟨y, ρ2⟩
    dsimp only
    unfold lookO kV
    by_cases h : isStr y = true <;> simp [h, ofOpt]
def dictO (s : Option Sl) : R (List (D × D)) := match s with
  | some (.own (.dict kvs)) => .ok kvs
  | _ => .bad
@[simp] theorem dictO_own (kvs : List (D × D)) : dictO (some (.own (.dict kvs))) = .ok kvs := (rfl)
theorem dictAt_eq (ρ : Rho) (i : Nat) : dictAt ρ i = dictO ρ[i]? := (rfl)
def kDg3 (r : R (List (D × D))) (g : List (D × D) → D → Option D) (y : D) (ρ : Rho) : RE := r.bind fun kvs => if isStr y = true then kV (g kvs y) ρ else .bad
@[simp] theorem kDg3_ok (kvs : List (D × D)) (g : List (D × D) → D → Option D) (s : Str) (ρ : Rho) : kDg3 (.ok kvs) g (.str s) ρ = kV (g kvs (.str s)) ρ := (rfl)
def kDg2 (r : RE) (g : List (D × D) → D → Option D) (i : Nat) : RE := r.bind fun (y, ρ1) => kDg3 (dictO ρ1[i]?) g y ρ1
@[simp] theorem kDg2_ok (y : D) (ρ : Rho) (g : List (D × D) → D → Option D) (i : Nat) : kDg2 (.ok (y, ρ)) g i = kDg3 (dictO ρ[i]?) g y ρ := (rfl)
def kDg (r : R (List (D × D))) (C : Ctx) (g : List (D × D) → D → Option D) (i : Nat) (k : Ex) (ρ : Rho) : RE := r.bind fun _ => kDg2 (evE C k ρ) g i
@[simp] theorem kDg_ok (kvs : List (D × D)) (C : Ctx) (g : List (D × D) → D → Option D) (i : Nat) (k : Ex) (ρ : Rho) : kDg (.ok kvs) C g i k ρ = kDg2 (evE C k ρ) g i := (rfl)
@[simp] theorem evE_dget (C : Ctx) (i : Nat) (k : Ex) (ρ : Rho) : evE C (.dget i k) ρ = kDg (dictO ρ[i]?) C lookS i k ρ := by rw [evE]; rfl
def lookN (kvs : List (D × D)) (y : D) : Option D := some ((lookS kvs y).getD .none)
@[simp] theorem lookN_eq (kvs : List (D × D)) (y : D) : lookN kvs y = some ((lookS kvs y).getD .none) := (rfl)
@[simp] theorem evE_dgetN (C : Ctx) (i : Nat) (k : Ex) (ρ : Rho) : evE C (.dgetN i k) ρ = kDg (dictO ρ[i]?) C lookN i k ρ := by rw [evE]; rfl
def hasB (kvs : List (D × D)) (y : D) : Option D := some (.bool (lookS kvs y).isSome)
@[simp] theorem hasB_eq (kvs : List (D × D)) (y : D) : hasB kvs y = some (.bool (lookS kvs y).isSome) := (rfl)
@[simp] theorem evE_din (C : Ctx) (i : Nat) (k : Ex) (ρ : Rho) : evE C (.din i k) ρ = kDg2 (evE C k ρ) hasB i := by rw [evE]; rfl
def kMth2 (r : RA) (m : Me) (x : D) : RE := r.bind fun (xs, ρ2) => kV (mthD m x xs) ρ2
@[simp] theorem kMth2_ok (xs : List D) (ρ : Rho) (m : Me) (x : D) : kMth2 (.ok (xs, ρ)) m x = kV (mthD m x xs) ρ := (rfl)
def kMth1 (t : Bool) (C : Ctx) (m : Me) (x : D) (as : Ex) (ρ : Rho) : RE := if t = true then kMth2 (evA C as ρ) m x else .bad
@[simp] theorem kMth1_t (C : Ctx) (m : Me) (x : D) (as : Ex) (ρ : Rho) : kMth1 true C m x as ρ = kMth2 (evA C as ρ) m x := (rfl)
def kMth (r : RE) (C : Ctx) (m : Me) (as : Ex) : RE := r.bind fun (x, ρ1) => kMth1 (meOk m x) C m x as ρ1
@[simp] theorem kMth_ok (x : D) (ρ : Rho) (C : Ctx) (m : Me) (as : Ex) : kMth (.ok (x, ρ)) C m as = kMth1 (meOk m x) C m x as ρ := (rfl)
@[simp] theorem evE_mth (C : Ctx) (m : Me) (a as : Ex) (ρ : Rho) : evE C (.mth m a as) ρ = kMth (evE C a ρ) C m as := by rw [evE]; rfl
def kLam (t : Bool) (C : Ctx) (f : Nat) (b : Ex) (ρ : Rho) : RE := if t = true then lamFin (C.lam f) ρ (evE C.low b ρ) else .bad
@[simp] theorem kLam_t (C : Ctx) (f : Nat) (b : Ex) (ρ : Rho) : kLam true C f b ρ = lamFin (C.lam f) ρ (evE C.low b ρ) := (rfl)
@[simp] theorem evE_lam (C : Ctx) (f : Nat) (b : Ex) (ρ : Rho) : evE C (.lam f b) ρ = kLam (decide (2 ≤ C.lv) && noOwnIn b ρ) C f b ρ := by rw [evE]; rfl
@[simp] theorem lamFin_ok (g : R D → Option D) (ρ ρ1 : Rho) (d : D) : lamFin g ρ (.ok (d, ρ1)) = kV (g (.ok d)) ρ1 := (rfl)
@[simp] theorem lamFin_exc (g : R D → Option D) (ρ : Rho) (c : Nat) : lamFin g ρ (.exc c) = kV (g (.exc c)) ρ := (rfl)

/-! ### walks -/
def pkI (C : Ctx) (k : ItK) (as : Ex) (oc : Nat → Bool) (ρ : Rho) : RA := peekI k as oc (evA C as) ρ
def kIt (r : RA) (k : ItK) : RA := r.bind fun (ds, ρ1) => (ofOpt (itD k ds)).bind fun xs => .ok (xs, ρ1)
def kIt2 (o : Option (List D)) (ρ : Rho) : RA := (ofOpt o).bind fun xs => .ok (xs, ρ)
@[simp] theorem kIt2_some (xs : List D) (ρ : Rho) : kIt2 (some xs) ρ = .ok (xs, ρ) := (rfl)
theorem kIt_ok (ds : List D) (ρ : Rho) (k : ItK) : kIt (.ok (ds, ρ)) k = kIt2 (itD k ds) ρ := (rfl)
@[simp] theorem kIt_seq_l (xs : List D) (ρ : Rho) : kIt (.ok ([.list xs], ρ)) .seq = .ok (xs, ρ) := (rfl)
@[simp] theorem kIt_seq_t (xs : List D) (ρ : Rho) : kIt (.ok ([.tuple xs], ρ)) .seq = .ok (xs, ρ) := (rfl)
@[simp] theorem kIt_enum_l (xs : List D) (ρ : Rho) : kIt (.ok ([.list xs], ρ)) .enum = .ok (enumD xs, ρ) := (rfl)
@[simp] theorem kIt_enum_t (xs : List D) (ρ : Rho) : kIt (.ok ([.tuple xs], ρ)) .enum = .ok (enumD xs, ρ) := (rfl)
@[simp] theorem kIt_zip (xs ys : List D) (ρ : Rho) : kIt (.ok ([.list xs, .list ys], ρ)) .zip = .ok (zipD xs ys, ρ) := (rfl)
@[simp] theorem pkI_rng1 (C : Ctx) (as : Ex) (oc : Nat → Bool) (ρ : Rho) : pkI C .rng1 as oc ρ = kIt (evA C as ρ) .rng1 := (rfl)
@[simp] theorem pkI_rng2 (C : Ctx) (as : Ex) (oc : Nat → Bool) (ρ : Rho) : pkI C .rng2 as oc ρ = kIt (evA C as ρ) .rng2 := (rfl)
@[simp] theorem pkI_enum (C : Ctx) (as : Ex) (oc : Nat → Bool) (ρ : Rho) : pkI C .enum as oc ρ = kIt (evA C as ρ) .enum := (rfl)
@[simp] theorem pkI_zip (C : Ctx) (as : Ex) (oc : Nat → Bool) (ρ : Rho) : pkI C .zip as oc ρ = kIt (evA C as ρ) .zip := (rfl)
@[simp] theorem pkI_s_cst (C : Ctx) (d : D) (oc : Nat → Bool) (ρ : Rho) : pkI C .seq (.cons (.cst d) .nil) oc ρ = kIt (evA C (.cons (.cst d) .nil) ρ) .seq := (rfl)
@[simp] theorem pkI_s_glb (C : Ctx) (k : Nat) (oc : Nat → Bool) (ρ : Rho) : pkI C .seq (.cons (.glb k) .nil) oc ρ = kIt (evA C (.cons (.glb k) .nil) ρ) .seq := (rfl)
@[simp] theorem pkI_s_bin (C : Ctx) (o : BOp) (a b : Ex) (oc : Nat → Bool) (ρ : Rho) : pkI C .seq (.cons (.bin o a b) .nil) oc ρ = kIt (evA C (.cons (.bin o a b) .nil) ρ) .seq := (rfl)
@[simp] theorem pkI_s_rev (C : Ctx) (a : Ex) (oc : Nat → Bool) (ρ : Rho) : pkI C .seq (.cons (.rev a) .nil) oc ρ = kIt (evA C (.cons (.rev a) .nil) ρ) .seq := (rfl)
@[simp] theorem pkI_s_tup (C : Ctx) (a : Ex) (oc : Nat → Bool) (ρ : Rho) : pkI C .seq (.cons (.tup a) .nil) oc ρ = kIt (evA C (.cons (.tup a) .nil) ρ) .seq := (rfl)
@[simp] theorem pkI_s_lst (C : Ctx) (a : Ex) (oc : Nat → Bool) (ρ : Rho) : pkI C .seq (.cons (.lst a) .nil) oc ρ = kIt (evA C (.cons (.lst a) .nil) ρ) .seq := (rfl)
@[simp] theorem pkI_s_ix (C : Ctx) (a b : Ex) (oc : Nat → Bool) (ρ : Rho) : pkI C .seq (.cons (.ix a b) .nil) oc ρ = kIt (evA C (.cons (.ix a b) .nil) ρ) .seq := (rfl)
@[simp] theorem pkI_s_sl (C : Ctx) (a b c : Ex) (oc : Nat → Bool) (ρ : Rho) : pkI C .seq (.cons (.sl a b c) .nil) oc ρ = kIt (evA C (.cons (.sl a b c) .nil) ρ) .seq := (rfl)
@[simp] theorem pkI_s_call (C : Ctx) (f : Nat) (a : Ex) (oc : Nat → Bool) (ρ : Rho) : pkI C .seq (.cons (.call f a) .nil) oc ρ = kIt (evA C (.cons (.call f a) .nil) ρ) .seq := (rfl)
@[simp] theorem pkI_s_callIo (C : Ctx) (f i : Nat) (a : Ex) (oc : Nat → Bool) (ρ : Rho) : pkI C .seq (.cons (.callIo f i a) .nil) oc ρ = kIt (evA C (.cons (.callIo f i a) .nil) ρ) .seq := (rfl)
@[simp] theorem pkI_s_bi (C : Ctx) (b : Bi) (a : Ex) (oc : Nat → Bool) (ρ : Rho) : pkI C .seq (.cons (.bi b a) .nil) oc ρ = kIt (evA C (.cons (.bi b a) .nil) ρ) .seq := (rfl)
@[simp] theorem pkI_s_lc (C : Ctx) (t : Tg) (k : ItK) (a b c : Ex) (oc : Nat → Bool) (ρ : Rho) : pkI C .seq (.cons (.lc t k a b c) .nil) oc ρ = kIt (evA C (.cons (.lc t k a b c) .nil) ρ) .seq := (rfl)
@[simp] theorem pkI_s_mth (C : Ctx) (m : Me) (a b : Ex) (oc : Nat → Bool) (ρ : Rho) : pkI C .seq (.cons (.mth m a b) .nil) oc ρ = kIt (evA C (.cons (.mth m a b) .nil) ρ) .seq := (rfl)
def pkIV (s : Option Sl) (i : Nat) (t : Bool) (ρ : Rho) : RA := match s with
  | some (.val d) => kIt2 (itD .seq [d]) ρ
  | some (.own (.list xs)) => if t = true then .bad else .ok (xs, ρ)
  | _ => .bad
@[simp] theorem pkIV_val (d : D) (i : Nat) (t : Bool) (ρ : Rho) : pkIV (some (.val d)) i t ρ = kIt (.ok ([d], ρ)) .seq := (rfl)
@[simp] theorem pkIV_own (xs : List D) (i : Nat) (t : Bool) (ρ : Rho) : pkIV (some (.own (.list xs))) i t ρ = if t = true then .bad else .ok (xs, ρ) := (rfl)
theorem pkI_var (C : Ctx) (i : Nat) (oc : Nat → Bool) (ρ : Rho) : pkI C .seq (.cons (.var i) .nil) oc ρ = pkIV ρ[i]? i (oc i) ρ := by
  unfold pkI
  have e : peekI .seq (.cons (.var i) .nil) oc (evA C (.cons (.var i) .nil)) ρ = match ρ[i]? with
    | some (.own (.list xs)) => if oc i = true then .bad else .ok (xs, ρ)
    | _ => kIt (evA C (.cons (.var i) .nil) ρ) .seq := rfl
  rw [e, evA_cons, evE_var]
  generalize ρ[i]? = q
  cases q with
  | none => rfl
  | some s => cases s with
    | no => rfl
    | val d => simp
    | own d => cases d <;> rfl
def kLc2 (r : RA) (ρ1 : Rho) (ws : List Nat) : RE := (noX r).bind fun (ys, ρ2) => .ok (.list ys, backR ρ1 ρ2 ws)
@[simp] theorem kLc2_ok (ys : List D) (ρ ρ1 : Rho) (ws : List Nat) : kLc2 (.ok (ys, ρ)) ρ1 ws = .ok (.list ys, backR ρ1 ρ ws) := (rfl)
def kLc (r : RA) (C : Ctx) (t : Tg) (c e : Ex) : RE := r.bind fun (xs, ρ1) => if xs.length ≤ line then kLc2 (lcGo (bindT t) (tstR (isZero c) (evE C c)) (evE C e) t.slots xs (wipeR ρ1 t.slots)) ρ1 t.slots else .bad
theorem kLc_ok (xs : List D) (ρ : Rho) (C : Ctx) (t : Tg) (c e : Ex) (h : xs.length ≤ 16777216) : kLc (.ok (xs, ρ)) C t c e = kLc2 (lcGo (bindT t) (tstR (isZero c) (evE C c)) (evE C e) t.slots xs (wipeR ρ t.slots)) ρ t.slots := if_pos h
def kLcE2 (r : RA) (y : D) : RA := r.bind fun (ys, ρ) => .ok (y :: ys, ρ)
@[simp] theorem kLcE2_ok (ys : List D) (ρ : Rho) (y : D) : kLcE2 (.ok (ys, ρ)) y = .ok (y :: ys, ρ) := (rfl)
/-- a comprehension of items that change nothing -/
theorem lcGo_map {α : Type} {bnd : D → Rho → R Rho} {tst : Rho → R (Bool × Rho)} {elt : Rho → R (D × Rho)} {ws : List Nat} {ρ : Rho} (g h : α → D) (p : α → Bool) : ∀ (xs : List α),
    (∀ x ∈ xs, ∃ ρ1, bnd (g x) ρ = .ok ρ1 ∧ tst ρ1 = .ok (p x, ρ1) ∧ (p x = true → elt ρ1 = .ok (h x, ρ1)) ∧ wipeR ρ1 ws = ρ) → lcGo bnd tst elt ws (xs.map g) ρ = .ok ((xs.filter p).map h, ρ)
  | [], _ => rfl
  | x :: xs, H => by
    obtain ⟨ρ1, h1, h2, h3, h4⟩ := H x (.head _)
    have ih := lcGo_map g h p xs fun y hy => H y (.tail _ hy)
    rw [List.map_cons]
    unfold lcGo
    rw [h1, bind_ok, h2, bind_ok]
    dsimp only
    by_cases hp : p x = true
    · rw [if_pos hp, h3 hp, bind_ok]
      dsimp only
      rw [h4, ih, bind_ok]
      simp [hp]
    · rw [if_neg hp, h4, ih]
      simp [hp]
theorem evE_lc (C : Ctx) (t : Tg) (k : ItK) (s c e : Ex) (ρ : Rho) : evE C (.lc t k s c e) ρ = kLc (pkI C k s (fun i => t.slots.contains i || occ i c || occ i e) ρ) C t c e := by rw [evE]; rfl

/-! ### statements -/
abbrev RS := R (Fl × Rho)
def kSeq (r : RS) (C : Ctx) (s : Sx) : RS := r.bind fun (f, ρ1) => match f with
    | .next => evS C s ρ1
    | .ret d => .ok (.ret d, ρ1)
@[simp] theorem kSeq_next (ρ : Rho) (C : Ctx) (s : Sx) : kSeq (.ok (.next, ρ)) C s = evS C s ρ := (rfl)
@[simp] theorem kSeq_ret (d : D) (ρ : Rho) (C : Ctx) (s : Sx) : kSeq (.ok (.ret d, ρ)) C s = .ok (.ret d, ρ) := (rfl)
@[simp] theorem kSeq_exc (c : Nat) (C : Ctx) (s : Sx) : kSeq (.exc c) C s = .exc c := (rfl)
@[simp] theorem evS_skip (C : Ctx) (ρ : Rho) : evS C .skip ρ = .ok (.next, ρ) := by rw [evS]
@[simp] theorem evS_seq (C : Ctx) (s r : Sx) (ρ : Rho) : evS C (.seq s r) ρ = kSeq (evS C s ρ) C r := by rw [evS]; rfl
def kNext (r : R Rho) : RS := r.bind fun ρ2 => .ok (.next, ρ2)
@[simp] theorem kNext_ok (ρ : Rho) : kNext (.ok ρ) = .ok (.next, ρ) := (rfl)
def kSet (r : RE) (t : Tg) : RS := r.bind fun (x, ρ1) => kNext (bindT t x ρ1)
@[simp] theorem kSet_ok (x : D) (ρ : Rho) (t : Tg) : kSet (.ok (x, ρ)) t = kNext (bindT t x ρ) := (rfl)
@[simp] theorem kSet_exc (c : Nat) (t : Tg) : kSet (.exc c) t = .exc c := (rfl)
@[simp] theorem evS_set (C : Ctx) (t : Tg) (e : Ex) (ρ : Rho) : evS C (.set t e) ρ = kSet (evE C e ρ) t := by rw [evS]; rfl
def kPar (r : RA) (is : List Nat) : RS := r.bind fun (xs, ρ1) => kNext (parS is xs ρ1)
@[simp] theorem kPar_ok (xs : List D) (ρ : Rho) (is : List Nat) : kPar (.ok (xs, ρ)) is = kNext (parS is xs ρ) := (rfl)
@[simp] theorem evS_par (C : Ctx) (is : List Nat) (as : Ex) (ρ : Rho) : evS C (.par is as) ρ = kPar (evA C as ρ) is := by rw [evS]; rfl
def kOwn (r : RE) (i : Nat) : RS := (r.bind ownG).bind fun (x, ρ1) => kNext (ownS i x ρ1)
@[simp] theorem kOwn_list (xs : List D) (ρ : Rho) (i : Nat) : kOwn (.ok (.list xs, ρ)) i = kNext (ownS i (.list xs) ρ) := (rfl)
@[simp] theorem kOwn_dict (xs : List (D × D)) (ρ : Rho) (i : Nat) : kOwn (.ok (.dict xs, ρ)) i = kNext (ownS i (.dict xs) ρ) := (rfl)
@[simp] theorem evS_own (C : Ctx) (i : Nat) (e : Ex) (ρ : Rho) : evS C (.own i e) ρ = kOwn (evE C e ρ) i := by rw [evS]; rfl
def kApp3 (r : R (List D)) (x : D) (i : Nat) (ρ : Rho) : RS := r.bind fun xs => if xs.length < line then .ok (.next, ρ.set i (.own (.list (xs ++ [x])))) else .bad
theorem kApp3_ok (xs : List D) (x : D) (i : Nat) (ρ : Rho) (h : xs.length < 16777216) : kApp3 (.ok xs) x i ρ = .ok (.next, ρ.set i (.own (.list (xs ++ [x])))) := if_pos h
def kApp2 (r : RE) (i : Nat) : RS := r.bind fun (x, ρ1) => kApp3 (ownO ρ1[i]?) x i ρ1
@[simp] theorem kApp2_ok (x : D) (ρ : Rho) (i : Nat) : kApp2 (.ok (x, ρ)) i = kApp3 (ownO ρ[i]?) x i ρ := (rfl)
def kApp (r : R (List D)) (C : Ctx) (i : Nat) (e : Ex) (ρ : Rho) : RS := r.bind fun _ => kApp2 (evE C e ρ) i
@[simp] theorem kApp_ok (xs : List D) (C : Ctx) (i : Nat) (e : Ex) (ρ : Rho) : kApp (.ok xs) C i e ρ = kApp2 (evE C e ρ) i := (rfl)
@[simp] theorem evS_app (C : Ctx) (i : Nat) (e : Ex) (ρ : Rho) : evS C (.app i e) ρ = kApp (ownO ρ[i]?) C i e ρ := by rw [evS]; rfl
def kPut3 (r : RE) (i : Nat) (x : D) : RS := r.bind fun (y, ρ2) => kNext (putSl i y x ρ2)
@[simp] theorem kPut3_ok (y : D) (ρ : Rho) (i : Nat) (x : D) : kPut3 (.ok (y, ρ)) i x = kNext (putSl i y x ρ) := (rfl)
def kPut2 (r : R (List D)) (C : Ctx) (i : Nat) (k : Ex) (x : D) (ρ : Rho) : RS := r.bind fun _ => kPut3 (evE C k ρ) i x
@[simp] theorem kPut2_ok (xs : List D) (C : Ctx) (i : Nat) (k : Ex) (x : D) (ρ : Rho) : kPut2 (.ok xs) C i k x ρ = kPut3 (evE C k ρ) i x := (rfl)
def kPut (r : RE) (C : Ctx) (i : Nat) (k : Ex) : RS := r.bind fun (x, ρ1) => kPut2 (ownO ρ1[i]?) C i k x ρ1
@[simp] theorem kPut_ok (x : D) (ρ : Rho) (C : Ctx) (i : Nat) (k : Ex) : kPut (.ok (x, ρ)) C i k = kPut2 (ownO ρ[i]?) C i k x ρ := (rfl)
@[simp] theorem evS_put (C : Ctx) (i : Nat) (k e : Ex) (ρ : Rho) : evS C (.put i k e) ρ = kPut (evE C e ρ) C i k := by rw [evS]; rfl
def kDp3 (r : RE) (i : Nat) (x : D) : RS := r.bind fun (y, ρ2) => kNext (putDl i y x ρ2)
@[simp] theorem kDp3_ok (y : D) (ρ : Rho) (i : Nat) (x : D) : kDp3 (.ok (y, ρ)) i x = kNext (putDl i y x ρ) := (rfl)
def kDp2 (r : R (List (D × D))) (C : Ctx) (i : Nat) (k : Ex) (x : D) (ρ : Rho) : RS := r.bind fun _ => kDp3 (evE C k ρ) i x
@[simp] theorem kDp2_ok (xs : List (D × D)) (C : Ctx) (i : Nat) (k : Ex) (x : D) (ρ : Rho) : kDp2 (.ok xs) C i k x ρ = kDp3 (evE C k ρ) i x := (rfl)
def kDp (r : RE) (C : Ctx) (i : Nat) (k : Ex) : RS := r.bind fun (x, ρ1) => kDp2 (dictO ρ1[i]?) C i k x ρ1
@[simp] theorem kDp_ok (x : D) (ρ : Rho) (C : Ctx) (i : Nat) (k : Ex) : kDp (.ok (x, ρ)) C i k = kDp2 (dictO ρ[i]?) C i k x ρ := (rfl)
@[simp] theorem evS_dput (C : Ctx) (i : Nat) (k e : Ex) (ρ : Rho) : evS C (.dput i k e) ρ = kDp (evE C e ρ) C i k := by rw [evS]; rfl
def kEx (r : RE) : RS := r.bind fun (_, ρ1) => .ok (.next, ρ1)
@[simp] theorem kEx_ok (x : D) (ρ : Rho) : kEx (.ok (x, ρ)) = .ok (.next, ρ) := (rfl)
@[simp] theorem kEx_exc (c : Nat) : kEx (.exc c) = .exc c := (rfl)
@[simp] theorem evS_ex (C : Ctx) (e : Ex) (ρ : Rho) : evS C (.ex e) ρ = kEx (evE C e ρ) := by rw [evS]; rfl
def kRet (r : RE) : RS := r.bind fun (x, ρ1) => .ok (.ret x, ρ1)
@[simp] theorem kRet_ok (x : D) (ρ : Rho) : kRet (.ok (x, ρ)) = .ok (.ret x, ρ) := (rfl)
@[simp] theorem kRet_exc (c : Nat) : kRet (.exc c) = .exc c := (rfl)
@[simp] theorem evS_ret (C : Ctx) (e : Ex) (ρ : Rho) : evS C (.ret e) ρ = kRet (evE C e ρ) := by rw [evS]; rfl
def kRetO (r : R (List D)) (ρ : Rho) : RS := r.bind fun xs => .ok (.ret (.list xs), ρ)
@[simp] theorem kRetO_ok (xs : List D) (ρ : Rho) : kRetO (.ok xs) ρ = .ok (.ret (.list xs), ρ) := (rfl)
@[simp] theorem evS_retO (C : Ctx) (i : Nat) (ρ : Rho) : evS C (.retO i) ρ = kRetO (ownO ρ[i]?) ρ := by rw [evS]; rfl
@[simp] theorem evS_retN (C : Ctx) (ρ : Rho) : evS C .retN ρ = .ok (.ret .none, ρ) := by rw [evS]
def kCond (r : R (Bool × Rho)) (C : Ctx) (a b : Sx) : RS := r.bind fun (t, ρ1) => if t = true then evS C a ρ1 else evS C b ρ1
@[simp] theorem kCond_t (ρ : Rho) (C : Ctx) (a b : Sx) : kCond (.ok (true, ρ)) C a b = evS C a ρ := (rfl)
@[simp] theorem kCond_f (ρ : Rho) (C : Ctx) (a b : Sx) : kCond (.ok (false, ρ)) C a b = evS C b ρ := (rfl)
@[simp] theorem kCond_exc (c : Nat) (C : Ctx) (a b : Sx) : kCond (.exc c) C a b = .exc c := (rfl)
@[simp] theorem evS_cond (C : Ctx) (c : Ex) (a b : Sx) (ρ : Rho) : evS C (.cond c a b) ρ = kCond (kB (evE C c ρ)) C a b := by rw [evS]; rfl
def kLoop (r : RA) (C : Ctx) (t : Tg) (b : Sx) : RS := r.bind fun (xs, ρ1) => goL (bindT t) (evS C b) xs ρ1
@[simp] theorem kLoop_ok (xs : List D) (ρ : Rho) (C : Ctx) (t : Tg) (b : Sx) : kLoop (.ok (xs, ρ)) C t b = goL (bindT t) (evS C b) xs ρ := (rfl)
@[simp] theorem evS_loop (C : Ctx) (t : Tg) (k : ItK) (s : Ex) (b : Sx) (ρ : Rho) : evS C (.loop t k s b) ρ = kLoop (kIt (evA C s ρ) k) C t b := by rw [evS]; rfl
theorem evS_while (C : Ctx) (c : Ex) (b : Sx) (ρ : Rho) : evS C (.while c b) ρ = goW (fun r => kB (evE C c r)) (evS C b) turns ρ := by rw [evS]; rfl
@[simp] theorem evS_raise (C : Ctx) (c : Nat) (ρ : Rho) : evS C (.raise c) ρ = .exc c := by rw [evS]
theorem bindT_name (i : Nat) (d : D) (ρ : Rho) (h : i < ρ.length) : bindT (.name i) d ρ = .ok (ρ.set i (.val d)) := if_pos h
@[simp] theorem bindT_nil (ρ : Rho) : bindT .nil (.tuple []) ρ = .ok ρ := (rfl)
def kTg (r : R Rho) (t : Tg) (xs : List D) : R Rho := r.bind fun ρ1 => bindT t (.tuple xs) ρ1
@[simp] theorem kTg_ok (ρ : Rho) (t : Tg) (xs : List D) : kTg (.ok ρ) t xs = bindT t (.tuple xs) ρ := (rfl)
@[simp] theorem bindT_cons (t r : Tg) (x : D) (xs : List D) (ρ : Rho) : bindT (.cons t r) (.tuple (x :: xs)) ρ = kTg (bindT t x ρ) r xs := (rfl)
@[simp] theorem parS_nil (ρ : Rho) : parS [] [] ρ = .ok ρ := (rfl)
theorem parS_cons (i : Nat) (is : List Nat) (d : D) (ds : List D) (ρ : Rho) (h : i < ρ.length) : parS (i :: is) (d :: ds) ρ = parS is ds (ρ.set i (.val d)) := if_pos h
theorem ownS_list (i : Nat) (xs : List D) (ρ : Rho) (h : i < ρ.length) : ownS i (.list xs) ρ = .ok (ρ.set i (.own (.list xs))) := if_pos h
theorem ownS_dict (i : Nat) (xs : List (D × D)) (ρ : Rho) (h : i < ρ.length) : ownS i (.dict xs) ρ = .ok (ρ.set i (.own (.dict xs))) := if_pos h
/-! ### operations, by what they are given -/
@[simp] theorem isD_none_int : isD .none .int = some (.bool false) := (rfl)
@[simp] theorem isD_none_bool : isD .none .bool = some (.bool false) := (rfl)
@[simp] theorem isD_none_str : isD .none .str = some (.bool false) := (rfl)
@[simp] theorem isD_none_tuple : isD .none .tuple = some (.bool false) := (rfl)
@[simp] theorem isD_none_list : isD .none .list = some (.bool false) := (rfl)
@[simp] theorem isD_bool_int (b : Bool) : isD (.bool b) .int = some (.bool true) := (rfl)
@[simp] theorem isD_bool_bool (b : Bool) : isD (.bool b) .bool = some (.bool true) := (rfl)
@[simp] theorem isD_bool_str (b : Bool) : isD (.bool b) .str = some (.bool false) := (rfl)
@[simp] theorem isD_bool_tuple (b : Bool) : isD (.bool b) .tuple = some (.bool false) := (rfl)
@[simp] theorem isD_bool_list (b : Bool) : isD (.bool b) .list = some (.bool false) := (rfl)
@[simp] theorem isD_int_int (b : Int) : isD (.int b) .int = some (.bool true) := (rfl)
@[simp] theorem isD_int_bool (b : Int) : isD (.int b) .bool = some (.bool false) := (rfl)
@[simp] theorem isD_int_str (b : Int) : isD (.int b) .str = some (.bool false) := (rfl)
@[simp] theorem isD_int_tuple (b : Int) : isD (.int b) .tuple = some (.bool false) := (rfl)
@[simp] theorem isD_int_list (b : Int) : isD (.int b) .list = some (.bool false) := (rfl)
@[simp] theorem isD_str_int (b : Str) : isD (.str b) .int = some (.bool false) := (rfl)
@[simp] theorem isD_str_bool (b : Str) : isD (.str b) .bool = some (.bool false) := (rfl)
@[simp] theorem isD_str_str (b : Str) : isD (.str b) .str = some (.bool true) := (rfl)
@[simp] theorem isD_str_tuple (b : Str) : isD (.str b) .tuple = some (.bool false) := (rfl)
@[simp] theorem isD_str_list (b : Str) : isD (.str b) .list = some (.bool false) := (rfl)
@[simp] theorem isD_tuple_int (b : List D) : isD (.tuple b) .int = some (.bool false) := (rfl)
@[simp] theorem isD_tuple_bool (b : List D) : isD (.tuple b) .bool = some (.bool false) := (rfl)
@[simp] theorem isD_tuple_str (b : List D) : isD (.tuple b) .str = some (.bool false) := (rfl)
@[simp] theorem isD_tuple_tuple (b : List D) : isD (.tuple b) .tuple = some (.bool true) := (rfl)
@[simp] theorem isD_tuple_list (b : List D) : isD (.tuple b) .list = some (.bool false) := (rfl)
@[simp] theorem isD_list_int (b : List D) : isD (.list b) .int = some (.bool false) := (rfl)
@[simp] theorem isD_list_bool (b : List D) : isD (.list b) .bool = some (.bool false) := (rfl)
@[simp] theorem isD_list_str (b : List D) : isD (.list b) .str = some (.bool false) := (rfl)
@[simp] theorem isD_list_tuple (b : List D) : isD (.list b) .tuple = some (.bool false) := (rfl)
@[simp] theorem isD_list_list (b : List D) : isD (.list b) .list = some (.bool true) := (rfl)
@[simp] theorem truthD_none : truthD .none = some false := (rfl)
@[simp] theorem truthD_bool (b : Bool) : truthD (.bool b) = some b := (rfl)
@[simp] theorem truthD_int (i : Int) : truthD (.int i) = some (i != 0) := (rfl)
@[simp] theorem truthD_list (xs : List D) : truthD (.list xs) = some (!xs.isEmpty) := (rfl)
@[simp] theorem truthD_tuple (xs : List D) : truthD (.tuple xs) = some (!xs.isEmpty) := (rfl)
theorem truthD_str (s : Str) : truthD (.str s) = if s.length ≤ 16777216 then some ((s.length : Int) != 0) else none := (rfl)
@[simp] theorem bj_len_list (xs : List D) : biD .len [.list xs] = some (.int xs.length) := (rfl)
@[simp] theorem bj_len_tuple (xs : List D) : biD .len [.tuple xs] = some (.int xs.length) := (rfl)
@[simp] theorem bj_len_str (s : Str) : biD .len [.str s] = if s.length ≤ 16777216 then some (.int s.length) else none := (rfl)
theorem abs_nat (i : Int) : (if i < 0 then -i else i) = (i.natAbs : Int) := by split <;> omega
@[simp] theorem bj_abs (i : Int) : biD .abs [.int i] = some (.int (i.natAbs : Int)) := by rw [← abs_nat]; rfl
@[simp] theorem bj_int (i : Int) : biD .int [.int i] = some (.int i) := (rfl)
@[simp] theorem bj_list_l (xs : List D) : biD .list [.list xs] = some (.list xs) := (rfl)
@[simp] theorem bj_list_t (xs : List D) : biD .list [.tuple xs] = some (.list xs) := (rfl)
@[simp] theorem bj_tuple_l (xs : List D) : biD .tuple [.list xs] = some (.tuple xs) := (rfl)
@[simp] theorem bj_tuple_t (xs : List D) : biD .tuple [.tuple xs] = some (.tuple xs) := (rfl)
theorem boolsOf_map {α : Type} (f : α → Bool) : ∀ xs : List α, boolsOf (xs.map fun x => .bool (f x)) = some (xs.map f)
  | [] => rfl
  | x :: r => by rw [List.map_cons]; unfold boolsOf; rw [boolsOf_map f r]; rfl
theorem bj_all {α : Type} (f : α → Bool) (xs : List α) : biD .all [.list (xs.map fun x => .bool (f x))] = some (.bool (xs.all f)) := by
  show (boolsOf _).bind _ = _
  rw [boolsOf_map]
  simp [b2]
theorem bj_any {α : Type} (f : α → Bool) (xs : List α) : biD .any [.list (xs.map fun x => .bool (f x))] = some (.bool (xs.any f)) := by
  show (boolsOf _).bind _ = _
  rw [boolsOf_map]
  simp [b2]
@[simp] theorem bj_bool (b : Bool) : biD .bool [.bool b] = some (.bool b) := (rfl)
@[simp] theorem bj_min2 (i j : Int) : biD .min2 [.int i, .int j] = some (.int (if j < i then j else i)) := (rfl)
@[simp] theorem bin_add_ii (a b : Int) : binD .add (.int a) (.int b) = some (.int (a + b)) := (rfl)
@[simp] theorem bin_add_bi (a : Bool) (b : Int) : binD .add (.bool a) (.int b) = some (.int ((if a = true then (1 : Int) else 0) + b)) := (rfl)
@[simp] theorem bin_add_ss (a b : Str) : binD .add (.str a) (.str b) = if a.length + b.length ≤ 16777216 then some (.str (a ++ b)) else none := (rfl)
@[simp] theorem bin_add_tt (a b : List D) : binD .add (.tuple a) (.tuple b) = if a.length + b.length ≤ 16777216 then some (.tuple (a ++ b)) else none := (rfl)
@[simp] theorem bin_add_ll (a b : List D) : binD .add (.list a) (.list b) = if a.length + b.length ≤ 16777216 then some (.list (a ++ b)) else none := (rfl)
@[simp] theorem bin_sub_ii (a b : Int) : binD .sub (.int a) (.int b) = some (.int (a - b)) := (rfl)
@[simp] theorem bin_sub_bi (a : Bool) (b : Int) : binD .sub (.bool a) (.int b) = some (.int ((if a = true then (1 : Int) else 0) - b)) := (rfl)
@[simp] theorem bin_sub_bb (a b : Bool) : binD .sub (.bool a) (.bool b) = some (.int ((if a = true then (1 : Int) else 0) - (if b = true then (1 : Int) else 0))) := (rfl)
@[simp] theorem bin_mul_ii (a b : Int) : binD .mul (.int a) (.int b) = if mulOk a b = true then some (.int (a * b)) else none := (rfl)
@[simp] theorem bin_mul_ti (a : List D) (k : Int) : binD .mul (.tuple a) (.int k) = if a ≠ [] ∧ 2 ≤ k ∧ k ≤ 1000 ∧ a.length ≤ 1000 then some (.tuple (reps k.toNat a)) else none := (rfl)
@[simp] theorem bin_fdiv_ii (a b : Int) : binD .fdiv (.int a) (.int b) = if divOk a b = true then some (.int (a.fdiv b)) else none := (rfl)
@[simp] theorem bin_mod_ii (a b : Int) : binD .mod (.int a) (.int b) = if b ≠ 0 then some (.int (a.fmod b)) else none := (rfl)
@[simp] theorem bin_pow_ii (a b : Int) : binD .pow (.int a) (.int b) = if 0 ≤ b ∧ b ≤ 1000000 ∧ a.natAbs < 2 ^ 64 then some (.int (a ^ b.toNat)) else none := (rfl)
@[simp] theorem cmp_eq' (a b : D) : cmpD .eq a b = if eqOk a b = true then some (.bool (PyData.eqv a b)) else none := (rfl)
@[simp] theorem cmp_ne' (a b : D) : cmpD .ne a b = if eqOk a b = true then some (.bool (!PyData.eqv a b)) else none := (rfl)
@[simp] theorem cmp_lt' (a b : Int) : cmpD .lt (.int a) (.int b) = some (.bool (decide (a < b))) := (rfl)
@[simp] theorem cmp_le' (a b : Int) : cmpD .le (.int a) (.int b) = some (.bool (decide (a ≤ b))) := (rfl)
@[simp] theorem cmp_gt' (a b : Int) : cmpD .gt (.int a) (.int b) = some (.bool (decide (b < a))) := (rfl)
@[simp] theorem cmp_ge' (a b : Int) : cmpD .ge (.int a) (.int b) = some (.bool (decide (b ≤ a))) := (rfl)
@[simp] theorem cmp_in_ss (a b : Str) : cmpD .isin (.str a) (.str b) = some (.bool (!(Builtin.Str.occurrences b a 0 b.length 1).isEmpty)) := (rfl)
@[simp] theorem cmp_in_t (d : D) (xs : List D) : cmpD .isin d (.tuple xs) = if inOk d xs = true then some (.bool (xs.any fun z => PyData.eqv z d)) else none := by cases d <;> rfl
@[simp] theorem cmp_in_l (d : D) (xs : List D) : cmpD .isin d (.list xs) = if inOk d xs = true then some (.bool (xs.any fun z => PyData.eqv z d)) else none := by cases d <;> rfl
@[simp] theorem cmp_ni_t (d : D) (xs : List D) : cmpD .notin d (.tuple xs) = if inOk d xs = true then some (.bool (!xs.any fun z => PyData.eqv z d)) else none := by cases d <;> rfl
@[simp] theorem cmp_ni_l (d : D) (xs : List D) : cmpD .notin d (.list xs) = if inOk d xs = true then some (.bool (!xs.any fun z => PyData.eqv z d)) else none := by cases d <;> rfl
@[simp] theorem ixD_t (xs : List D) (i : Int) : ixD (.tuple xs) (.int i) = L2.atI xs i := (rfl)
@[simp] theorem ixD_l (xs : List D) (i : Int) : ixD (.list xs) (.int i) = L2.atI xs i := (rfl)
@[simp] theorem slD_t (xs : List D) (lo hi : Option Int) : slD (.tuple xs) lo hi = some (.tuple (cutD xs lo hi)) := (rfl)
@[simp] theorem slD_s (s : Str) (lo hi : Option Int) : slD (.str s) lo hi = if s.length ≤ 16777216 then some (.str ⟨(cutD s.cps.toList lo hi).toArray⟩) else none := (rfl)
@[simp] theorem bin_mul_si (a : Str) (k : Int) : binD .mul (.str a) (.int k) = if 2 ≤ k ∧ k ≤ 1000 ∧ 1 ≤ a.length ∧ a.length ≤ 1000 then some (.str (Txt.mul a k)) else none := (rfl)
@[simp] theorem slD_l (xs : List D) (lo hi : Option Int) : slD (.list xs) lo hi = some (.list (cutD xs lo hi)) := (rfl)
@[simp] theorem revD_t (xs : List D) : revD (.tuple xs) = some (.tuple xs.reverse) := (rfl)
@[simp] theorem revD_l (xs : List D) : revD (.list xs) = some (.list xs.reverse) := (rfl)
@[simp] theorem isBd_b (neg b t : Bool) : isBd neg b (.bool t) = some (.bool (if neg = true then !(t == b) else t == b)) := (rfl)
@[simp] theorem it_seq_l (xs : List D) : itD .seq [.list xs] = some xs := (rfl)
@[simp] theorem it_seq_t (xs : List D) : itD .seq [.tuple xs] = some xs := (rfl)
@[simp] theorem it_enum_l (xs : List D) : itD .enum [.list xs] = some (enumD xs) := (rfl)
@[simp] theorem it_enum_t (xs : List D) : itD .enum [.tuple xs] = some (enumD xs) := (rfl)
@[simp] theorem it_zip (xs ys : List D) : itD .zip [.list xs, .list ys] = some (zipD xs ys) := (rfl)
theorem rngOk_of {j : Int} (h : -1000000000000 ≤ j ∧ j ≤ 1000000000000) : rngOk j = true := by
  have e : (2 : Int) ^ 62 = 4611686018427387904 := by decide +kernel
  unfold rngOk
  rw [e]
  simp only [Bool.and_eq_true, decide_eq_true_eq]
  omega
theorem kIt_r1 (j : Int) (h : -1000000000000 ≤ j ∧ j ≤ 1000000000000) (ρ : Rho) : kIt (.ok ([.int j], ρ)) .rng1 = .ok (rangeD 0 j.toNat, ρ) := by
  have e : itD .rng1 [.int j] = if rngOk j = true then some (rangeD 0 j.toNat) else none := rfl
  rw [kIt_ok, e, if_pos (rngOk_of h)]
  rfl
theorem kIt_r2 (i j : Int) (h : -1000000000000 ≤ i ∧ i ≤ 1000000000000) (h2 : -1000000000000 ≤ j ∧ j ≤ 1000000000000) (ρ : Rho) : kIt (.ok ([.int i, .int j], ρ)) .rng2 = .ok (rangeD i (j - i).toNat, ρ) := by
  have e : itD .rng2 [.int i, .int j] = if (rngOk i && rngOk j) = true then some (rangeD i (j - i).toNat) else none := rfl
  rw [kIt_ok, e, rngOk_of h, rngOk_of h2]
  rfl
theorem mulOk_l {i j : Int} (h : -18446744073709551616 < i) (h2 : i < 18446744073709551616) : mulOk i j = true := by
  have e : (2 : Int) ^ 64 = 18446744073709551616 := by decide +kernel
  unfold mulOk
  rw [e]
  simp only [Bool.or_eq_true, Bool.and_eq_true, decide_eq_true_eq]
  omega
theorem mulOk_r {i j : Int} (h : -18446744073709551616 < j) (h2 : j < 18446744073709551616) : mulOk i j = true := by
  have e : (2 : Int) ^ 64 = 18446744073709551616 := by decide +kernel
  unfold mulOk
  rw [e]
  simp only [Bool.or_eq_true, Bool.and_eq_true, decide_eq_true_eq]
  omega
theorem divOk_s {i j : Int} (h : j ≠ 0) (h2 : -1073741824 < j) (h3 : j < 1073741824) : divOk i j = true := by
  unfold divOk
  simp only [Bool.or_eq_true, Bool.and_eq_true, decide_eq_true_eq]
  omega
theorem divOk_p {i j : Int} (h : 0 < j) (h3 : j < 2 ^ 4000) : divOk i j = true := by
  unfold divOk
  simp only [Bool.or_eq_true, Bool.and_eq_true, decide_eq_true_eq]
  refine .inr ⟨h, ?_⟩
  have : ((j.natAbs : Nat) : Int) < ((2 ^ 4000 : Nat) : Int) := by
    rw [Int.natAbs_of_nonneg (by omega)]
    simpa using h3
  exact Int.ofNat_lt.mp this
theorem atI_nat {α : Type} (xs : List α) (a : Nat) : L2.atI xs (a : Int) = xs[a]? := by
  unfold L2.atI L2.ixN
  rw [if_pos (Int.natCast_nonneg a)]
  by_cases h : a < xs.length
  · rw [if_pos (by omega)]; simp
  · rw [if_neg (by omega), List.getElem?_eq_none (by omega)]; rfl
@[simp] theorem atI_pos {α : Type} (xs : List α) (i : Int) (h : 0 ≤ i) : L2.atI xs i = xs[i.toNat]? := by
  have := atI_nat xs i.toNat
  rw [Int.toNat_of_nonneg h] at this
  exact this
theorem cut_to {α : Type} (xs : List α) (n : Nat) : cutD xs none (some (n : Int)) = xs.take n := by
  unfold cutD
  rw [HT.sIx_none, HT.sIx_nat]
  simp
theorem cut_from {α : Type} (xs : List α) (n : Nat) : cutD xs (some (n : Int)) none = xs.drop n := by
  unfold cutD
  rw [HT.sIx_none, HT.sIx_nat]
  by_cases h : n ≤ xs.length
  · rw [Nat.min_eq_left h]; rw [List.take_of_length_le (by simp)]
  · rw [Nat.min_eq_right (by omega), List.drop_eq_nil_of_le (by omega : xs.length ≤ xs.length), List.drop_eq_nil_of_le (by omega)]; simp
theorem cut_both {α : Type} (xs : List α) (n m : Nat) : cutD xs (some (n : Int)) (some (m : Int)) = (xs.take m).drop n := by
  unfold cutD
  rw [HT.sIx_nat, HT.sIx_nat]
  apply List.ext_getElem?
  intro i
  by_cases h1 : i < min m xs.length - min n xs.length
  · rw [List.getElem?_take_of_lt h1, List.getElem?_drop, List.getElem?_drop, List.getElem?_take_of_lt (by omega)]
    congr 1
    omega
  · rw [List.getElem?_eq_none (by simp; omega), List.getElem?_eq_none (by simp; omega)]
@[simp] theorem cut_to_p {α : Type} (xs : List α) (i : Int) (h : 0 ≤ i) : cutD xs none (some i) = xs.take i.toNat := by
  have := cut_to xs i.toNat
  rw [Int.toNat_of_nonneg h] at this
  exact this
@[simp] theorem cut_from_p {α : Type} (xs : List α) (i : Int) (h : 0 ≤ i) : cutD xs (some i) none = xs.drop i.toNat := by
  have := cut_from xs i.toNat
  rw [Int.toNat_of_nonneg h] at this
  exact this
@[simp] theorem cut_both_p {α : Type} (xs : List α) (i j : Int) (h : 0 ≤ i) (h2 : 0 ≤ j) : cutD xs (some i) (some j) = (xs.take j.toNat).drop i.toNat := by
  have := cut_both xs i.toNat j.toNat
  rw [Int.toNat_of_nonneg h, Int.toNat_of_nonneg h2] at this
  exact this
@[simp] theorem meOk_split (s : Str) : meOk .split (.str s) = true := (rfl)
@[simp] theorem meOk_join (s : Str) : meOk .join (.str s) = true := (rfl)
@[simp] theorem meOk_index (xs : List D) : meOk .index (.list xs) = true := (rfl)
end Fo

set_option Elab.async false
set_option linter.all false
set_option maxRecDepth 100000
set_option maxHeartbeats 4000000
/-! the tables of law_k05_whole_lines_that_are_one (printed by print_law.py) -/
namespace Lk
open PySem L2 Fo LamX PyProof.Rows L2H
def top (i : Nat) : Stmt := PySem.Challenge.pw_openfolds_k05_whole_lines_that_are_one.main.body.getD i (.Pass ⟨0, 0, 0, 0⟩)
abbrev s0 : Stmt := top 15
def N0 : List Str := [("value" : Str)]
def p0 : List Str := [("value" : Str)]
def F0 : Df := ⟨1, 1, false, false, (.seq (.ret (.and (.isi (.var 0) .int) (.not (.isi (.var 0) .bool)))) .skip)⟩
abbrev s1 : Stmt := top 16
def N1 : List Str := [("value" : Str), ("low" : Str), ("high" : Str)]
def p1 : List Str := [("value" : Str), ("low" : Str), ("high" : Str)]
def F1 : Df := ⟨3, 3, false, false, (.seq (.ret (.and (.call 0 (.cons (.var 0) .nil)) (.chain .le .le (.var 1) (.var 0) (.var 2)))) .skip)⟩
abbrev s2 : Stmt := top 17
def N2 : List Str := [("one" : Str), ("other" : Str)]
def p2 : List Str := [("one" : Str), ("other" : Str)]
def F2 : Df := ⟨2, 2, false, false, (.seq (.par [0, 1] (.cons (.bi .abs (.cons (.var 0) .nil)) (.cons (.bi .abs (.cons (.var 1) .nil)) .nil))) (.seq (.while (.cmp .ne (.var 1) (.cst (.int 0))) (.seq (.par [0, 1] (.cons (.var 1) (.cons (.bin .mod (.var 0) (.var 1)) .nil))) .skip)) (.seq (.ret (.var 0)) .skip)))⟩
abbrev s31 : Stmt := top 18
def N31 : List Str := [("top" : Str), ("below" : Str), ("divisor" : Str)]
def p31 : List Str := [("top" : Str), ("below" : Str)]
def F31 : Df := ⟨2, 3, false, false, (.seq (.set (.name 2) (.call 2 (.cons (.var 0) (.cons (.var 1) .nil)))) (.seq (.ret (.tup (.cons (.bin .fdiv (.var 0) (.var 2)) (.cons (.bin .fdiv (.var 1) (.var 2)) .nil)))) .skip))⟩
abbrev s5 : Stmt := top 19
def N5 : List Str := [("one" : Str), ("other" : Str)]
def p5 : List Str := [("one" : Str), ("other" : Str)]
def F5 : Df := ⟨2, 2, false, false, (.seq (.cond (.and (.cmp .isin (.var 0) (.tup (.cons (.cst (.str "upright")) (.cons (.cst (.str "level")) .nil)))) (.cmp .isin (.var 1) (.tup (.cons (.cst (.str "up")) (.cons (.cst (.str "down")) .nil))))) (.seq (.ret (.ite (.cmp .eq (.var 0) (.cst (.str "upright"))) (.cst (.str "level")) (.cst (.str "upright")))) .skip) .skip) (.seq (.cond (.and (.cmp .isin (.var 0) (.tup (.cons (.cst (.str "up")) (.cons (.cst (.str "down")) .nil)))) (.cmp .isin (.var 1) (.tup (.cons (.cst (.str "upright")) (.cons (.cst (.str "level")) .nil))))) (.seq (.ret (.ite (.cmp .eq (.var 0) (.cst (.str "up"))) (.cst (.str "down")) (.cst (.str "up")))) .skip) .skip) (.seq (.ret (.var 0)) .skip)))⟩
abbrev s6 : Stmt := top 20
def N6 : List Str := [("kinds" : Str), ("value" : Str), ("is_same" : Str), ("one" : Str), ("other" : Str), ("good" : Str)]
def p6 : List Str := [("kinds" : Str), ("value" : Str)]
def F6 : Df := ⟨2, 6, false, false, (.seq (.cond (.or (.not (.tru (.isi (.var 1) .tuple))) (.or (.not (.chain .le .le (.cst (.int 3)) (.bi .len (.cons (.var 1) .nil)) (.cst (.int 4)))) (.not (.tru (.isi (.ix (.var 1) (.cst (.int 0))) .str))))) (.seq (.ret (.cst .none)) .skip) .skip) (.seq (.set (.cons (.name 3) (.cons (.name 4) .nil)) (.sl (.var 1) (.cst (.int 1)) (.cst (.int 3)))) (.seq (.cond (.or (.not (.tru (.call 1 (.cons (.var 3) (.cons (.cst (.int 0)) (.cons (.bin .sub (.bi .len (.cons (.var 0) .nil)) (.cst (.int 1))) .nil)))))) (.or (.not (.tru (.call 1 (.cons (.var 4) (.cons (.cst (.int 0)) (.cons (.bin .sub (.bi .len (.cons (.var 0) .nil)) (.cst (.int 1))) .nil)))))) (.cmp .eq (.var 3) (.var 4)))) (.seq (.ret (.cst .none)) .skip) .skip) (.seq (.set (.name 2) (.cmp .eq (.ix (.var 0) (.var 3)) (.ix (.var 0) (.var 4)))) (.seq (.cond (.cmp .eq (.ix (.var 1) (.cst (.int 0))) (.cst (.str "through"))) (.seq (.set (.name 5) (.and (.cmp .eq (.bi .len (.cons (.var 1) .nil)) (.cst (.int 4))) (.and (.isi (.ix (.var 1) (.cst (.int 3))) .str) (.cmp .isin (.ix (.var 1) (.cst (.int 3))) (.glb 0))))) (.seq (.ret (.ite (.and (.tru (.var 5)) (.not (.tru (.var 2)))) (.ix (.var 1) (.cst (.int 3))) (.cst .none))) .skip)) .skip) (.seq (.cond (.cmp .eq (.bi .len (.cons (.var 1) .nil)) (.cst (.int 4))) (.seq (.ret (.cst .none)) .skip) .skip) (.seq (.cond (.cmp .isin (.ix (.var 1) (.cst (.int 0))) (.tup (.cons (.cst (.str "middle")) (.cons (.cst (.str "third")) .nil)))) (.seq (.ret (.ite (.tru (.var 2)) (.ix (.var 0) (.var 3)) (.cst .none))) .skip) .skip) (.seq (.ret (.ite (.cmp .eq (.ix (.var 1) (.cst (.int 0))) (.cst (.str "mirror"))) (.call 5 (.cons (.ix (.var 0) (.var 3)) (.cons (.ix (.var 0) (.var 4)) .nil))) (.cst .none))) .skip))))))))⟩
abbrev s7 : Stmt := top 21
def N7 : List Str := [("value" : Str), ("found" : Str), ("step" : Str), ("kind" : Str)]
def p7 : List Str := [("value" : Str)]
def F7 : Df := ⟨1, 4, false, false, (.seq (.cond (.or (.not (.tru (.isi (.var 0) .tuple))) (.cmp .gt (.bi .len (.cons (.var 0) .nil)) (.glb 2))) (.seq (.ret (.cst .none)) .skip) .skip) (.seq (.set (.name 1) (.glb 1)) (.seq (.loop (.name 2) .seq (.cons (.var 0) .nil) (.seq (.set (.name 3) (.call 6 (.cons (.var 1) (.cons (.var 2) .nil)))) (.seq (.cond (.isN false (.var 3)) (.seq (.ret (.cst .none)) .skip) .skip) (.seq (.set (.name 1) (.bin .add (.var 1) (.tup (.cons (.var 3) .nil)))) .skip)))) (.seq (.ret (.var 1)) .skip))))⟩
abbrev s8 : Stmt := top 22
def N8 : List Str := [("value" : Str)]
def p8 : List Str := [("value" : Str)]
def F8 : Df := ⟨1, 1, false, false, (.seq (.ret (.isN true (.call 7 (.cons (.var 0) .nil)))) .skip)⟩
abbrev s9 : Stmt := top 23
def N9 : List Str := [("plan" : Str)]
def p9 : List Str := [("plan" : Str)]
def F9 : Df := ⟨1, 1, false, false, (.seq (.cond (.not (.tru (.call 8 (.cons (.var 0) .nil)))) (.seq (.raise 1) .skip) .skip) .skip)⟩
abbrev s33 : Stmt := top 24
def N33 : List Str := [("value" : Str), ("low" : Str), ("high" : Str)]
def p33 : List Str := [("value" : Str), ("low" : Str), ("high" : Str)]
def F33 : Df := ⟨3, 3, false, false, (.seq (.cond (.not (.tru (.call 1 (.cons (.var 0) (.cons (.var 1) (.cons (.var 2) .nil)))))) (.seq (.raise 3) .skip) .skip) .skip)⟩
abbrev s34 : Stmt := top 32
def N34 : List Str := [("one" : Str), ("other" : Str)]
def p34 : List Str := [("one" : Str), ("other" : Str)]
def F34 : Df := ⟨2, 2, false, false, (.seq (.ret (.tup (.cons (.bin .add (.ix (.var 0) (.cst (.int 0))) (.ix (.var 1) (.cst (.int 0)))) (.cons (.bin .add (.ix (.var 0) (.cst (.int 1))) (.ix (.var 1) (.cst (.int 1)))) .nil)))) .skip)⟩
abbrev s35 : Stmt := top 33
def N35 : List Str := [("one" : Str), ("other" : Str)]
def p35 : List Str := [("one" : Str), ("other" : Str)]
def F35 : Df := ⟨2, 2, false, false, (.seq (.ret (.tup (.cons (.bin .sub (.ix (.var 0) (.cst (.int 0))) (.ix (.var 1) (.cst (.int 0)))) (.cons (.bin .sub (.ix (.var 0) (.cst (.int 1))) (.ix (.var 1) (.cst (.int 1)))) .nil)))) .skip)⟩
abbrev s36 : Stmt := top 34
def N36 : List Str := [("one" : Str), ("by" : Str)]
def p36 : List Str := [("one" : Str), ("by" : Str)]
def F36 : Df := ⟨2, 2, false, false, (.seq (.ret (.tup (.cons (.bin .fdiv (.ix (.var 0) (.cst (.int 0))) (.var 1)) (.cons (.bin .fdiv (.ix (.var 0) (.cst (.int 1))) (.var 1)) .nil)))) .skip)⟩
abbrev s37 : Stmt := top 35
def N37 : List Str := [("one" : Str)]
def p37 : List Str := [("one" : Str)]
def F37 : Df := ⟨1, 1, false, false, (.seq (.ret (.tup (.cons (.bin .mul (.cst (.int 2)) (.ix (.var 0) (.cst (.int 0)))) (.cons (.bin .mul (.cst (.int 2)) (.ix (.var 0) (.cst (.int 1)))) .nil)))) .skip)⟩
abbrev s38 : Stmt := top 36
def N38 : List Str := [("one" : Str), ("ratio" : Str)]
def p38 : List Str := [("one" : Str), ("ratio" : Str)]
def F38 : Df := ⟨2, 2, false, false, (.seq (.ret (.bin .add (.bin .mul (.ix (.var 0) (.cst (.int 0))) (.ix (.var 1) (.cst (.int 0)))) (.bin .mul (.ix (.var 0) (.cst (.int 1))) (.ix (.var 1) (.cst (.int 1)))))) .skip)⟩
abbrev s39 : Stmt := top 37
def N39 : List Str := [("one" : Str)]
def p39 : List Str := [("one" : Str)]
def F39 : Df := ⟨1, 1, false, false, (.seq (.ret (.ite (.cmp .lt (.bin .mul (.ix (.var 0) (.cst (.int 0))) (.ix (.var 0) (.cst (.int 1)))) (.cst (.int 0))) (.call 31 (.cons (.bi .abs (.cons (.ix (.var 0) (.cst (.int 1))) .nil)) (.cons (.bi .abs (.cons (.ix (.var 0) (.cst (.int 0))) .nil)) .nil))) (.cst .none))) .skip)⟩
abbrev s40 : Stmt := top 38
def N40 : List Str := [("one" : Str), ("other" : Str)]
def p40 : List Str := [("one" : Str), ("other" : Str)]
def F40 : Df := ⟨2, 2, false, false, (.seq (.ret (.cmp .lt (.bin .mul (.ix (.var 0) (.cst (.int 0))) (.ix (.var 1) (.cst (.int 1)))) (.bin .mul (.ix (.var 1) (.cst (.int 0))) (.ix (.var 0) (.cst (.int 1)))))) .skip)⟩
abbrev s41 : Stmt := top 39
def N41 : List Str := [("piece" : Str), ("one" : Str), ("root" : Str)]
def p41 : List Str := [("piece" : Str), ("one" : Str)]
def F41 : Df := ⟨2, 3, false, false, (.seq (.set (.name 2) (.call 39 (.cons (.var 1) .nil))) (.seq (.ret (.ite (.and (.isN true (.var 2)) (.and (.tru (.call 40 (.cons (.ix (.var 0) (.cst (.int 0))) (.cons (.var 2) .nil)))) (.tru (.call 40 (.cons (.var 2) (.cons (.ix (.var 0) (.cst (.int 1))) .nil)))))) (.var 2) (.cst .none))) .skip))⟩
abbrev s42 : Stmt := top 40
def N42 : List Str := [("piece" : Str), ("low" : Str), ("high" : Str)]
def p42 : List Str := [("piece" : Str)]
def F42 : Df := ⟨1, 3, false, false, (.seq (.set (.cons (.name 1) (.cons (.name 2) .nil)) (.sl (.var 0) .nil (.cst (.int 2)))) (.seq (.ret (.ite (.cmp .eq (.var 1) (.var 2)) (.var 1) (.call 31 (.cons (.bin .add (.ix (.var 1) (.cst (.int 0))) (.ix (.var 2) (.cst (.int 0)))) (.cons (.bin .add (.ix (.var 1) (.cst (.int 1))) (.ix (.var 2) (.cst (.int 1)))) .nil))))) .skip))⟩
abbrev s43 : Stmt := top 41
def N43 : List Str := [("piece" : Str), ("one" : Str), ("value" : Str)]
def p43 : List Str := [("piece" : Str), ("one" : Str)]
def F43 : Df := ⟨2, 3, false, false, (.seq (.set (.name 2) (.call 38 (.cons (.var 1) (.cons (.call 42 (.cons (.var 0) .nil)) .nil)))) (.seq (.ret (.bin .sub (.cmp .gt (.var 2) (.cst (.int 0))) (.cmp .lt (.var 2) (.cst (.int 0))))) .skip))⟩
abbrev s44 : Stmt := top 42
def N44 : List Str := [("piece" : Str), ("ratio" : Str), ("low" : Str), ("high" : Str), ("lines" : Str)]
def p44 : List Str := [("piece" : Str), ("ratio" : Str)]
def F44 : Df := ⟨2, 5, false, false, (.seq (.set (.cons (.name 2) (.cons (.name 3) (.cons (.name 4) .nil))) (.var 0)) (.seq (.ret (.lst (.cons (.tup (.cons (.var 2) (.cons (.var 1) (.cons (.var 4) .nil)))) (.cons (.tup (.cons (.var 1) (.cons (.var 1) (.cons (.var 4) .nil)))) (.cons (.tup (.cons (.var 1) (.cons (.var 3) (.cons (.var 4) .nil)))) .nil))))) .skip))⟩
abbrev s45 : Stmt := top 43
def N45 : List Str := [("piece" : Str), ("lengths" : Str), ("one" : Str), ("root" : Str)]
def p45 : List Str := [("piece" : Str), ("lengths" : Str)]
def F45 : Df := ⟨2, 4, false, false, (.seq (.loop (.name 2) .seq (.cons (.var 1) .nil) (.seq (.set (.name 3) (.call 41 (.cons (.var 0) (.cons (.var 2) .nil)))) (.seq (.cond (.isN true (.var 3)) (.seq (.ret (.var 3)) .skip) .skip) .skip))) (.seq (.ret (.cst .none)) .skip))⟩
abbrev s46 : Stmt := top 44
def N46 : List Str := [("one" : Str), ("other" : Str), ("places" : Str), ("y" : Str), ("kind" : Str), ("place" : Str), ("x" : Str)]
def p46 : List Str := [("one" : Str), ("other" : Str)]
def F46 : Df := ⟨2, 7, false, false, (.seq (.own 2 (.dict [] .nil)) (.seq (.loop (.cons (.name 4) (.cons (.name 5) .nil)) .seq (.cons (.tup (.cons (.var 0) (.cons (.var 1) .nil))) .nil) (.seq (.dput 2 (.var 4) (.var 5)) .skip)) (.seq (.cond (.and (.din 2 (.cst (.str "up"))) (.din 2 (.cst (.str "down")))) (.seq (.ret (.tup (.cons (.call 36 (.cons (.call 34 (.cons (.dget 2 (.cst (.str "down"))) (.cons (.dget 2 (.cst (.str "up"))) .nil))) (.cons (.cst (.int 2)) .nil))) (.cons (.call 36 (.cons (.call 35 (.cons (.dget 2 (.cst (.str "down"))) (.cons (.dget 2 (.cst (.str "up"))) .nil))) (.cons (.cst (.int 2)) .nil))) .nil)))) .skip) .skip) (.seq (.cond (.din 2 (.cst (.str "upright"))) (.seq (.set (.name 6) (.dget 2 (.cst (.str "upright")))) (.seq (.set (.name 3) (.dgetN 2 (.cst (.str "level")))) (.seq (.cond (.din 2 (.cst (.str "up"))) (.seq (.set (.name 3) (.call 35 (.cons (.var 6) (.cons (.dget 2 (.cst (.str "up"))) .nil)))) .skip) .skip) (.seq (.cond (.din 2 (.cst (.str "down"))) (.seq (.set (.name 3) (.call 35 (.cons (.dget 2 (.cst (.str "down"))) (.cons (.var 6) .nil)))) .skip) .skip) (.seq (.ret (.tup (.cons (.var 6) (.cons (.var 3) .nil)))) .skip))))) .skip) (.seq (.set (.name 3) (.dget 2 (.cst (.str "level")))) (.seq (.ret (.tup (.cons (.ite (.din 2 (.cst (.str "up"))) (.call 34 (.cons (.dget 2 (.cst (.str "up"))) (.cons (.var 3) .nil))) (.call 35 (.cons (.dget 2 (.cst (.str "down"))) (.cons (.var 3) .nil)))) (.cons (.var 3) .nil)))) .skip))))))⟩
abbrev s47 : Stmt := top 45
def N47 : List Str := [("point" : Str), ("kind" : Str), ("x" : Str), ("y" : Str)]
def p47 : List Str := [("point" : Str), ("kind" : Str)]
def F47 : Df := ⟨2, 4, false, false, (.seq (.set (.cons (.name 2) (.cons (.name 3) .nil)) (.var 0)) (.seq (.ret (.tup (.cons (.var 1) (.cons (.dix ["upright", "level", "up", "down"] (.cons (.var 2) (.cons (.var 3) (.cons (.call 35 (.cons (.var 2) (.cons (.var 3) .nil))) (.cons (.call 34 (.cons (.var 2) (.cons (.var 3) .nil))) .nil)))) (.var 1)) .nil)))) .skip))⟩
abbrev s48 : Stmt := top 46
def N48 : List Str := [("one" : Str), ("other" : Str), ("kind" : Str), ("place" : Str), ("word" : Str), ("axis" : Str)]
def p48 : List Str := [("one" : Str), ("other" : Str)]
def F48 : Df := ⟨2, 6, false, false, (.seq (.set (.cons (.cons (.name 2) (.cons (.name 3) .nil)) (.cons (.cons (.name 4) (.cons (.name 5) .nil)) .nil)) (.tup (.cons (.var 0) (.cons (.var 1) .nil)))) (.seq (.cond (.cmp .isin (.var 4) (.tup (.cons (.cst (.str "upright")) (.cons (.cst (.str "level")) .nil)))) (.seq (.cond (.cmp .eq (.var 2) (.var 4)) (.seq (.ret (.tup (.cons (.var 2) (.cons (.call 35 (.cons (.call 37 (.cons (.var 5) .nil)) (.cons (.var 3) .nil))) .nil)))) .skip) .skip) (.seq (.cond (.cmp .isin (.var 2) (.tup (.cons (.cst (.str "upright")) (.cons (.cst (.str "level")) .nil)))) (.seq (.ret (.var 0)) .skip) .skip) (.seq (.cond (.cmp .eq (.var 4) (.cst (.str "upright"))) (.seq (.ret (.tup (.cons (.ite (.cmp .eq (.var 2) (.cst (.str "up"))) (.cst (.str "down")) (.cst (.str "up"))) (.cons (.call 35 (.cons (.call 37 (.cons (.var 5) .nil)) (.cons (.var 3) .nil))) .nil)))) .skip) .skip) (.seq (.ret (.ite (.cmp .eq (.var 2) (.cst (.str "up"))) (.tup (.cons (.cst (.str "down")) (.cons (.call 34 (.cons (.var 3) (.cons (.call 37 (.cons (.var 5) .nil)) .nil))) .nil))) (.tup (.cons (.cst (.str "up")) (.cons (.call 35 (.cons (.var 3) (.cons (.call 37 (.cons (.var 5) .nil)) .nil))) .nil))))) .skip)))) .skip) (.seq (.cond (.cmp .eq (.var 2) (.var 4)) (.seq (.ret (.tup (.cons (.var 2) (.cons (.call 35 (.cons (.call 37 (.cons (.var 5) .nil)) (.cons (.var 3) .nil))) .nil)))) .skip) .skip) (.seq (.cond (.cmp .isin (.var 2) (.tup (.cons (.cst (.str "up")) (.cons (.cst (.str "down")) .nil)))) (.seq (.ret (.var 0)) .skip) .skip) (.seq (.cond (.cmp .eq (.var 4) (.cst (.str "up"))) (.seq (.ret (.ite (.cmp .eq (.var 2) (.cst (.str "upright"))) (.tup (.cons (.cst (.str "level")) (.cons (.call 35 (.cons (.var 3) (.cons (.var 5) .nil))) .nil))) (.tup (.cons (.cst (.str "upright")) (.cons (.call 34 (.cons (.var 3) (.cons (.var 5) .nil))) .nil))))) .skip) .skip) (.seq (.ret (.tup (.cons (.ite (.cmp .eq (.var 2) (.cst (.str "upright"))) (.cst (.str "level")) (.cst (.str "upright"))) (.cons (.call 35 (.cons (.var 5) (.cons (.var 3) .nil))) .nil)))) .skip))))))⟩
abbrev s49 : Stmt := top 47
def N49 : List Str := [("line" : Str), ("kind" : Str), ("place" : Str), ("low" : Str), ("high" : Str)]
def p49 : List Str := [("line" : Str)]
def F49 : Df := ⟨1, 5, false, false, (.seq (.set (.cons (.name 1) (.cons (.name 2) .nil)) (.var 0)) (.seq (.set (.cons (.name 3) (.cons (.name 4) .nil)) (.dix ["upright", "level", "up", "down"] (.cons (.tup (.cons (.glb 6) (.cons (.glb 4) .nil))) (.cons (.tup (.cons (.glb 6) (.cons (.glb 5) .nil))) (.cons (.tup (.cons (.call 35 (.cons (.glb 6) (.cons (.glb 5) .nil))) (.cons (.glb 4) .nil))) (.cons (.tup (.cons (.glb 6) (.cons (.call 34 (.cons (.glb 4) (.cons (.glb 5) .nil))) .nil))) .nil)))) (.var 1))) (.seq (.ret (.lst (.cons (.call 35 (.cons (.var 2) (.cons (.var 3) .nil))) (.cons (.call 35 (.cons (.var 4) (.cons (.var 2) .nil))) .nil)))) .skip)))⟩
abbrev s50 : Stmt := top 48
def N50 : List Str := [("step" : Str), ("one" : Str), ("other" : Str), ("gap" : Str), ("line" : Str), ("point" : Str), ("x" : Str), ("y" : Str)]
def p50 : List Str := [("step" : Str), ("one" : Str), ("other" : Str)]
def F50 : Df := ⟨3, 8, false, false, (.seq (.cond (.cmp .eq (.ix (.var 0) (.cst (.int 0))) (.cst (.str "through"))) (.seq (.set (.name 5) (.call 46 (.cons (.var 1) (.cons (.var 2) .nil)))) (.seq (.set (.name 4) (.call 47 (.cons (.var 5) (.cons (.ix (.var 0) (.cst (.int 3))) .nil)))) (.seq (.set (.cons (.name 6) (.cons (.name 7) .nil)) (.var 5)) (.seq (.ret (.tup (.cons (.var 4) (.cons (.lst .nil) (.cons (.lst (.cons (.var 6) (.cons (.call 35 (.cons (.glb 4) (.cons (.var 6) .nil))) (.cons (.var 7) (.cons (.call 35 (.cons (.glb 5) (.cons (.var 7) .nil))) .nil))))) (.cons (.call 49 (.cons (.var 4) .nil)) .nil)))))) .skip)))) .skip) (.seq (.cond (.cmp .eq (.ix (.var 0) (.cst (.int 0))) (.cst (.str "mirror"))) (.seq (.set (.name 4) (.call 48 (.cons (.var 1) (.cons (.var 2) .nil)))) (.seq (.ret (.tup (.cons (.var 4) (.cons (.lst .nil) (.cons (.lst .nil) (.cons (.call 49 (.cons (.var 4) .nil)) .nil)))))) .skip)) .skip) (.seq (.set (.name 3) (.call 35 (.cons (.ix (.var 2) (.cst (.int 1))) (.cons (.ix (.var 1) (.cst (.int 1))) .nil)))) (.seq (.set (.name 4) (.tup (.cons (.ix (.var 1) (.cst (.int 0))) (.cons (.call 34 (.cons (.ix (.var 1) (.cst (.int 1))) (.cons (.call 36 (.cons (.var 3) (.cons (.ite (.cmp .eq (.ix (.var 0) (.cst (.int 0))) (.cst (.str "middle"))) (.cst (.int 2)) (.cst (.int 3))) .nil))) .nil))) .nil)))) (.seq (.ret (.tup (.cons (.var 4) (.cons (.lst (.cons (.var 3) .nil)) (.cons (.lst .nil) (.cons (.call 49 (.cons (.var 4) .nil)) .nil)))))) .skip)))))⟩
abbrev s51 : Stmt := top 49
def N51 : List Str := [("piece" : Str), ("step" : Str), ("root" : Str), ("good" : Str), ("low" : Str), ("high" : Str), ("lines" : Str), ("one" : Str), ("other" : Str), ("line" : Str), ("unlike" : Str), ("least" : Str), ("above" : Str), ("found" : Str), ("part" : Str), ("length" : Str)]
def p51 : List Str := [("piece" : Str), ("step" : Str)]
def F51 : Df := ⟨2, 16, false, false, (.seq (.set (.cons (.name 4) (.cons (.name 5) (.cons (.name 6) .nil))) (.var 0)) (.seq (.par [7, 8] (.cons (.ix (.var 6) (.ix (.var 1) (.cst (.int 1)))) (.cons (.ix (.var 6) (.ix (.var 1) (.cst (.int 2)))) .nil))) (.seq (.cond (.or (.isN false (.var 7)) (.isN false (.var 8))) (.seq (.ret (.lst (.cons (.tup (.cons (.var 4) (.cons (.var 5) (.cons (.bin .add (.var 6) (.tup (.cons (.cst .none) .nil))) .nil)))) .nil))) .skip) .skip) (.seq (.set (.cons (.name 9) (.cons (.name 10) (.cons (.name 11) (.cons (.name 12) .nil)))) (.call 50 (.cons (.var 1) (.cons (.var 7) (.cons (.var 8) .nil))))) (.seq (.set (.name 2) (.call 45 (.cons (.var 0) (.cons (.bin .add (.bin .add (.var 10) (.var 11)) (.var 12)) .nil)))) (.seq (.cond (.isN true (.var 2)) (.seq (.set (.name 13) (.lst .nil)) (.seq (.loop (.name 14) .seq (.cons (.call 44 (.cons (.var 0) (.cons (.var 2) .nil))) .nil) (.seq (.set (.name 13) (.bin .add (.var 13) (.call 51 (.cons (.var 14) (.cons (.var 1) .nil))))) .skip)) (.seq (.ret (.var 13)) .skip))) .skip) (.seq (.set (.name 3) (.bi .all (.cons (.lc (.name 15) .seq (.cons (.var 10) .nil) .nil (.cmp .ne (.call 43 (.cons (.var 0) (.cons (.var 15) .nil))) (.cst (.int 0)))) .nil))) (.seq (.set (.name 3) (.and (.var 3) (.bi .all (.cons (.lc (.name 15) .seq (.cons (.var 11) .nil) .nil (.cmp .ge (.call 43 (.cons (.var 0) (.cons (.var 15) .nil))) (.cst (.int 0)))) .nil)))) (.seq (.set (.name 3) (.and (.var 3) (.bi .all (.cons (.lc (.name 15) .seq (.cons (.var 12) .nil) .nil (.cmp .gt (.call 43 (.cons (.var 0) (.cons (.var 15) .nil))) (.cst (.int 0)))) .nil)))) (.seq (.ret (.lst (.cons (.tup (.cons (.var 4) (.cons (.var 5) (.cons (.bin .add (.var 6) (.tup (.cons (.ite (.tru (.var 3)) (.var 9) (.cst .none)) .nil))) .nil)))) .nil))) .skip))))))))))⟩
abbrev s74 : Stmt := top 51
def N74 : List Str := [("plan" : Str), ("pieces" : Str), ("step" : Str), ("later" : Str), ("piece" : Str)]
def p74 : List Str := [("plan" : Str)]
def F74 : Df := ⟨1, 5, false, false, (.seq (.set (.name 1) (.lst (.cons (.tup (.cons (.glb 8) (.cons (.glb 9) (.cons (.glb 7) .nil)))) .nil))) (.seq (.loop (.name 2) .seq (.cons (.var 0) .nil) (.seq (.set (.name 3) (.lst .nil)) (.seq (.loop (.name 4) .seq (.cons (.var 1) .nil) (.seq (.set (.name 3) (.bin .add (.var 3) (.call 51 (.cons (.var 4) (.cons (.var 2) .nil))))) .skip)) (.seq (.set (.name 1) (.var 3)) .skip)))) (.seq (.ret (.var 1)) .skip)))⟩
abbrev s84 : Stmt := top 52
def N84 : List Str := [("pieces" : Str), ("lengths_in" : Str), ("found" : Str), ("piece" : Str), ("lengths" : Str), ("root" : Str), ("parts" : Str)]
def p84 : List Str := [("pieces" : Str), ("lengths_in" : Str)]
def F84 : Df := ⟨2, 7, false, false, (.seq (.own 2 (.lst .nil)) (.seq (.loop (.cons (.name 3) (.cons (.name 4) .nil)) .zip (.cons (.var 0) (.cons (.var 1) .nil)) (.seq (.set (.name 5) (.call 45 (.cons (.var 3) (.cons (.var 4) .nil)))) (.seq (.cond (.isN false (.var 5)) (.seq (.app 2 (.var 3)) .skip) (.seq (.set (.name 6) (.call 44 (.cons (.var 3) (.cons (.var 5) .nil)))) (.seq (.own 2 (.bin .add (.var 2) (.call 84 (.cons (.var 6) (.cons (.lst (.cons (.var 4) (.cons (.var 4) (.cons (.var 4) .nil)))) .nil))))) .skip))) .skip))) (.seq (.ret (.var 2)) .skip)))⟩
abbrev s75 : Stmt := top 54
def N75 : List Str := [("piece" : Str), ("low" : Str), ("high" : Str)]
def p75 : List Str := [("piece" : Str)]
def F75 : Df := ⟨1, 3, false, false, (.seq (.set (.cons (.name 1) (.cons (.name 2) .nil)) (.sl (.var 0) .nil (.cst (.int 2)))) (.seq (.ret (.tup (.cons (.var 1) (.cons (.cmp .eq (.var 1) (.var 2)) (.cons (.var 2) (.cons (.cmp .eq (.var 1) (.var 2)) .nil)))))) .skip))⟩
abbrev s76 : Stmt := top 55
def N76 : List Str := [("rows" : Str), ("found" : Str), ("piece" : Str), ("value" : Str), ("later" : Str), ("ahead" : Str)]
def p76 : List Str := [("rows" : Str)]
def F76 : Df := ⟨1, 6, false, false, (.seq (.own 1 (.lst .nil)) (.seq (.loop (.cons (.name 2) (.cons (.name 3) .nil)) .seq (.cons (.var 0) .nil) (.seq (.set (.name 4) (.call 75 (.cons (.var 2) .nil))) (.seq (.cond (.and (.cmp .ne (.var 1) (.lst .nil)) (.cmp .eq (.ix (.ix (.var 1) (.neg (.cst (.int 1)))) (.cst (.int 1))) (.var 3))) (.seq (.set (.name 5) (.ix (.ix (.var 1) (.neg (.cst (.int 1)))) (.cst (.int 0)))) (.seq (.put 1 (.neg (.cst (.int 1))) (.tup (.cons (.bin .add (.sl (.var 5) .nil (.cst (.int 2))) (.sl (.var 4) (.cst (.int 2)) .nil)) (.cons (.var 3) .nil)))) .skip)) (.seq (.app 1 (.tup (.cons (.var 4) (.cons (.var 3) .nil)))) .skip)) .skip))) (.seq (.ret (.var 1)) .skip)))⟩
abbrev s90 : Stmt := top 56
def N90 : List Str := [("rows" : Str), ("stretch" : Str), ("value" : Str)]
def p90 : List Str := [("rows" : Str)]
def F90 : Df := ⟨1, 3, false, false, (.seq (.ret (.lc (.cons (.name 1) (.cons (.name 2) .nil)) .seq (.cons (.call 76 (.cons (.var 0) .nil)) .nil) (.tru (.var 2)) (.var 1))) .skip)⟩
abbrev s91 : Stmt := top 58
def N91 : List Str := [("pieces" : Str), ("one" : Str), ("other" : Str), ("rows" : Str), ("piece" : Str), ("mine" : Str), ("theirs" : Str), ("gap" : Str), ("part" : Str)]
def p91 : List Str := [("pieces" : Str), ("one" : Str), ("other" : Str)]
def F91 : Df := ⟨3, 9, false, false, (.seq (.own 3 (.lst .nil)) (.seq (.loop (.name 4) .seq (.cons (.var 0) .nil) (.seq (.par [5, 6] (.cons (.ix (.ix (.var 4) (.cst (.int 2))) (.var 1)) (.cons (.ix (.ix (.var 4) (.cst (.int 2))) (.var 2)) .nil))) (.seq (.cond (.or (.isN false (.var 5)) (.or (.isN false (.var 6)) (.cmp .ne (.ix (.var 5) (.cst (.int 0))) (.ix (.var 6) (.cst (.int 0)))))) (.seq (.app 3 (.tup (.cons (.var 4) (.cons (.cst (.bool false)) .nil)))) .skip) (.seq (.set (.name 7) (.call 35 (.cons (.ix (.var 5) (.cst (.int 1))) (.cons (.ix (.var 6) (.cst (.int 1))) .nil)))) (.seq (.own 3 (.bin .add (.var 3) (.lc (.name 8) .seq (.cons (.call 84 (.cons (.lst (.cons (.var 4) .nil)) (.cons (.lst (.cons (.lst (.cons (.var 7) .nil)) .nil)) .nil))) .nil) .nil (.tup (.cons (.var 8) (.cons (.cmp .eq (.call 43 (.cons (.var 8) (.cons (.var 7) .nil))) (.cst (.int 0))) .nil)))))) .skip))) .skip))) (.seq (.ret (.var 3)) .skip)))⟩
abbrev s92 : Stmt := top 59
def N92 : List Str := [("plan" : Str), ("line" : Str), ("second" : Str)]
def p92 : List Str := [("plan" : Str), ("line" : Str), ("second" : Str)]
def F92 : Df := ⟨3, 3, false, false, (.seq (.ex (.call 9 (.cons (.var 0) .nil))) (.seq (.ex (.call 33 (.cons (.var 1) (.cons (.cst (.int 0)) (.cons (.bin .add (.bi .len (.cons (.var 0) .nil)) (.cst (.int 3))) .nil))))) (.seq (.ex (.call 33 (.cons (.var 2) (.cons (.cst (.int 0)) (.cons (.bin .add (.bi .len (.cons (.var 0) .nil)) (.cst (.int 3))) .nil))))) (.seq (.ret (.call 90 (.cons (.call 91 (.cons (.call 74 (.cons (.var 0) .nil)) (.cons (.var 1) (.cons (.var 2) .nil)))) .nil))) .skip))))⟩
abbrev s11 : Stmt := top 61
def N11 : List Str := [("_law_script" : Str), ("_law_k" : Str)]
def p11 : List Str := [("_law_script" : Str), ("_law_k" : Str)]
def F11 : Df := ⟨2, 2, false, false, (.seq (.cond (.cmp .lt (.var 1) (.bi .len (.cons (.var 0) .nil))) (.seq (.ret (.ix (.var 0) (.var 1))) .skip) .skip) (.seq (.cond (.cmp .eq (.bi .len (.cons (.var 0) .nil)) (.cst (.int 0))) (.seq (.ret (.bin .add (.bin .mul (.cst (.int 7919)) (.var 1)) (.cst (.int 101)))) .skip) .skip) (.seq (.ret (.bin .add (.bin .mod (.ix (.var 0) (.bin .mod (.var 1) (.bi .len (.cons (.var 0) .nil)))) (.cst (.int 1000003))) (.bin .mul (.cst (.int 7919)) (.var 1)))) .skip)))⟩
abbrev s12 : Stmt := top 62
def N12 : List Str := [("_law_script" : Str), ("_law_k" : Str), ("_law_many" : Str), ("_law_base" : Str), ("_law_primes" : Str), ("_law_cell_here" : Str), ("_law_rest" : Str), ("_law_row" : Str), ("_law_j" : Str), ("_law_mash" : Str)]
def p12 : List Str := [("_law_script" : Str), ("_law_k" : Str), ("_law_many" : Str), ("_law_base" : Str)]
def F12 : Df := ⟨4, 10, false, true, (.seq (.set (.name 4) (.tup (.cons (.cst (.int 2147483647)) (.cons (.cst (.int 2147483629)) (.cons (.cst (.int 2147483587)) (.cons (.cst (.int 2147483579)) (.cons (.cst (.int 2147483563)) (.cons (.cst (.int 2147483549)) (.cons (.cst (.int 2147483543)) (.cons (.cst (.int 2147483497)) .nil)))))))))) (.seq (.set (.name 5) (.call 11 (.cons (.var 0) (.cons (.var 1) .nil)))) (.seq (.set (.name 6) (.cst (.int 0))) (.seq (.cond (.cmp .ge (.var 5) (.bin .pow (.cst (.int 10)) (.cst (.int 18)))) (.seq (.set (.name 6) (.var 5)) .skip) .skip) (.seq (.own 7 (.lst .nil)) (.seq (.loop (.name 8) .rng1 (.cons (.var 2) .nil) (.seq (.set (.name 9) (.bin .mul (.bin .mod (.var 5) (.ix (.var 4) (.bin .mod (.var 8) (.cst (.int 8))))) (.bin .add (.cst (.int 48271)) (.bin .mul (.bin .mul (.cst (.int 2)) (.var 8)) (.var 8))))) (.seq (.set (.name 9) (.bin .add (.bin .add (.var 9) (.bin .mul (.bin .mul (.cst (.int 7919)) (.bin .add (.var 8) (.cst (.int 1)))) (.bin .add (.var 8) (.cst (.int 1))))) (.bin .mul (.cst (.int 104729)) (.var 1)))) (.seq (.set (.name 9) (.bin .mod (.var 9) (.ix (.var 4) (.bin .mod (.bin .add (.bin .mul (.cst (.int 3)) (.var 8)) (.var 1)) (.cst (.int 8)))))) (.seq (.set (.name 9) (.bin .mod (.bin .mul (.bin .mul (.var 9) (.var 9)) (.var 9)) (.ix (.var 4) (.bin .mod (.bin .add (.var 8) (.cst (.int 5))) (.cst (.int 8)))))) (.seq (.cond (.cmp .gt (.var 6) (.cst (.int 0))) (.seq (.set (.name 9) (.var 6)) .skip) .skip) (.seq (.app 7 (.bin .mod (.var 9) (.var 3))) (.seq (.set (.name 6) (.bin .fdiv (.var 6) (.var 3))) .skip)))))))) (.seq (.retO 7) .skip)))))))⟩
abbrev s13 : Stmt := top 63
def N13 : List Str := [("_law_script" : Str), ("_law_k" : Str)]
def p13 : List Str := [("_law_script" : Str), ("_law_k" : Str)]
def F13 : Df := ⟨2, 2, false, true, (.seq (.ret (.call 12 (.cons (.var 0) (.cons (.var 1) (.cons (.cst (.int 150)) (.cons (.cst (.int 27720)) .nil)))))) .skip)⟩
abbrev s14 : Stmt := top 64
def N14 : List Str := [("_law_bag_here" : Str), ("_law_many" : Str), ("_law_draw" : Str)]
def p14 : List Str := [("_law_bag_here" : Str), ("_law_many" : Str)]
def F14 : Df := ⟨2, 3, true, false, (.seq (.set (.name 2) (.ite (.cmp .ne (.var 0) (.lst .nil)) (.pop 0) (.cst (.int 0)))) (.seq (.ret (.bin .mod (.bi .int (.cons (.var 2) .nil)) (.var 1))) .skip))⟩
abbrev s15 : Stmt := top 65
def N15 : List Str := [("_law_bag_here" : Str), ("_law_some_here" : Str)]
def p15 : List Str := [("_law_bag_here" : Str), ("_law_some_here" : Str)]
def F15 : Df := ⟨2, 2, true, false, (.seq (.ret (.ix (.var 1) (.callIo 14 0 (.cons (.bi .len (.cons (.var 1) .nil)) .nil)))) .skip)⟩
abbrev s16 : Stmt := top 66
def N16 : List Str := [("_law_top" : Str), ("_law_below" : Str), ("_law_sign" : Str), ("_law_one" : Str), ("_law_other" : Str)]
def p16 : List Str := [("_law_top" : Str), ("_law_below" : Str)]
def F16 : Df := ⟨2, 5, false, false, (.seq (.par [3, 4] (.cons (.bi .abs (.cons (.var 0) .nil)) (.cons (.bi .abs (.cons (.var 1) .nil)) .nil))) (.seq (.while (.cmp .ne (.var 4) (.cst (.int 0))) (.seq (.par [3, 4] (.cons (.var 4) (.cons (.bin .mod (.var 3) (.var 4)) .nil))) .skip)) (.seq (.set (.name 2) (.ite (.cmp .gt (.var 1) (.cst (.int 0))) (.cst (.int 1)) (.neg (.cst (.int 1))))) (.seq (.ret (.tup (.cons (.bin .fdiv (.bin .mul (.var 2) (.var 0)) (.var 3)) (.cons (.bin .fdiv (.bin .mul (.var 2) (.var 1)) (.var 3)) .nil)))) .skip))))⟩
abbrev s17 : Stmt := top 67
def N17 : List Str := [("_law_one" : Str), ("_law_other" : Str), ("_law_pair" : Str), ("_law_flat" : Str), ("_law_slant" : Str)]
def p17 : List Str := [("_law_one" : Str), ("_law_other" : Str)]
def F17 : Df := ⟨2, 5, false, false, (.seq (.par [3, 4] (.cons (.lst (.cons (.cst (.str "upright")) (.cons (.cst (.str "level")) .nil))) (.cons (.lst (.cons (.cst (.str "up")) (.cons (.cst (.str "down")) .nil))) .nil))) (.seq (.cond (.cmp .eq (.cmp .isin (.var 0) (.var 3)) (.cmp .isin (.var 1) (.var 3))) (.seq (.ret (.var 0)) .skip) .skip) (.seq (.set (.name 2) (.ite (.cmp .isin (.var 0) (.var 3)) (.var 3) (.var 4))) (.seq (.ret (.ix (.var 2) (.bin .sub (.cst (.int 1)) (.mth .index (.var 2) (.cons (.var 0) .nil))))) .skip))))⟩
abbrev s18 : Stmt := top 68
def N18 : List Str := [("_law_bag_here" : Str), ("_law_kinds_here" : Str), ("_law_one" : Str), ("_law_other" : Str), ("_law_way" : Str)]
def p18 : List Str := [("_law_bag_here" : Str), ("_law_kinds_here" : Str)]
def F18 : Df := ⟨2, 5, true, false, (.seq (.set (.name 2) (.callIo 14 0 (.cons (.bi .len (.cons (.var 1) .nil)) .nil))) (.seq (.set (.name 3) (.bin .mod (.bin .add (.bin .add (.var 2) (.cst (.int 1))) (.callIo 14 0 (.cons (.bin .sub (.bi .len (.cons (.var 1) .nil)) (.cst (.int 1))) .nil))) (.bi .len (.cons (.var 1) .nil)))) (.seq (.set (.name 4) (.callIo 14 0 (.cons (.cst (.int 8)) .nil))) (.seq (.cond (.and (.cmp .eq (.ix (.var 1) (.var 2)) (.ix (.var 1) (.var 3))) (.cmp .lt (.var 4) (.cst (.int 7)))) (.seq (.ret (.tup (.cons (.ite (.cmp .lt (.var 4) (.cst (.int 4))) (.cst (.str "middle")) (.cst (.str "third"))) (.cons (.var 2) (.cons (.var 3) .nil))))) .skip) .skip) (.seq (.cond (.and (.cmp .ne (.ix (.var 1) (.var 2)) (.ix (.var 1) (.var 3))) (.cmp .lt (.var 4) (.cst (.int 6)))) (.seq (.ret (.tup (.cons (.cst (.str "through")) (.cons (.var 2) (.cons (.var 3) (.cons (.callIo 15 0 (.cons (.lst (.cons (.cst (.str "upright")) (.cons (.cst (.str "level")) (.cons (.cst (.str "up")) (.cons (.cst (.str "down")) (.cons (.cst (.str "up")) .nil)))))) .nil)) .nil)))))) .skip) .skip) (.seq (.ret (.tup (.cons (.cst (.str "mirror")) (.cons (.var 2) (.cons (.var 3) .nil))))) .skip))))))⟩
abbrev s19 : Stmt := top 69
def N19 : List Str := [("_law_plan_here" : Str), ("_law_found" : Str), ("_law_step_here" : Str)]
def p19 : List Str := [("_law_plan_here" : Str)]
def F19 : Df := ⟨1, 3, false, false, (.seq (.own 1 (.lst (.cons (.cst (.str "upright")) (.cons (.cst (.str "level")) (.cons (.cst (.str "upright")) (.cons (.cst (.str "level")) .nil)))))) (.seq (.loop (.name 2) .seq (.cons (.var 0) .nil) (.seq (.cond (.cmp .eq (.ix (.var 2) (.cst (.int 0))) (.cst (.str "through"))) (.seq (.app 1 (.ix (.var 2) (.cst (.int 3)))) .skip) (.seq (.cond (.cmp .eq (.ix (.var 2) (.cst (.int 0))) (.cst (.str "mirror"))) (.seq (.app 1 (.call 17 (.cons (.ix (.var 1) (.ix (.var 2) (.cst (.int 1)))) (.cons (.ix (.var 1) (.ix (.var 2) (.cst (.int 2)))) .nil)))) .skip) (.seq (.app 1 (.ix (.var 1) (.ix (.var 2) (.cst (.int 1))))) .skip)) .skip)) .skip)) (.seq (.ret (.var 1)) .skip)))⟩
abbrev s20 : Stmt := top 70
def N20 : List Str := [("_law_bag_here" : Str), ("_law_many" : Str), ("_law_found" : Str), ("_law_turn" : Str), ("_law_pair" : Str)]
def p20 : List Str := [("_law_bag_here" : Str), ("_law_many" : Str)]
def F20 : Df := ⟨2, 5, true, false, (.seq (.set (.name 2) (.tup .nil)) (.seq (.cond (.cmp .gt (.callIo 14 0 (.cons (.cst (.int 4)) .nil)) (.cst (.int 0))) (.seq (.set (.name 4) (.callIo 15 0 (.cons (.lst (.cons (.tup (.cons (.cst (.int 0)) (.cons (.cst (.int 1)) .nil))) (.cons (.tup (.cons (.cst (.int 0)) (.cons (.cst (.int 3)) .nil))) (.cons (.tup (.cons (.cst (.int 2)) (.cons (.cst (.int 1)) .nil))) (.cons (.tup (.cons (.cst (.int 3)) (.cons (.cst (.int 2)) .nil))) (.cons (.tup (.cons (.cst (.int 0)) (.cons (.cst (.int 1)) .nil))) .nil)))))) .nil))) (.seq (.set (.name 2) (.tup (.cons (.bin .add (.bin .add (.tup (.cons (.cst (.str "through")) .nil)) (.var 4)) (.tup (.cons (.callIo 15 0 (.cons (.lst (.cons (.cst (.str "up")) (.cons (.cst (.str "down")) .nil))) .nil)) .nil))) .nil))) .skip)) .skip) (.seq (.loop (.name 3) .rng1 (.cons (.callIo 14 0 (.cons (.bin .add (.var 1) (.cst (.int 1))) .nil)) .nil) (.seq (.cond (.cmp .lt (.bi .len (.cons (.var 2) .nil)) (.var 1)) (.seq (.set (.name 2) (.bin .add (.var 2) (.tup (.cons (.callIo 18 0 (.cons (.call 19 (.cons (.var 2) .nil)) .nil)) .nil)))) .skip) .skip) .skip)) (.seq (.ret (.var 2)) .skip))))⟩
abbrev s65 : Stmt := top 71
def N65 : List Str := [("_law_one" : Str), ("_law_other" : Str), ("_law_rows" : Str), ("_law_whole" : Str), ("_law_x" : Str), ("_law_y" : Str), ("_law_a" : Str), ("_law_b" : Str), ("_law_c" : Str), ("_law_d" : Str)]
def p65 : List Str := [("_law_one" : Str), ("_law_other" : Str)]
def F65 : Df := ⟨2, 10, false, false, (.seq (.own 2 (.dict ["upright", "level", "up", "down"] (.cons (.tup (.cons (.cst (.int 1)) (.cons (.cst (.int 0)) .nil))) (.cons (.tup (.cons (.cst (.int 0)) (.cons (.cst (.int 1)) .nil))) (.cons (.tup (.cons (.cst (.int 1)) (.cons (.neg (.cst (.int 1))) .nil))) (.cons (.tup (.cons (.cst (.int 1)) (.cons (.cst (.int 1)) .nil))) .nil)))))) (.seq (.set (.cons (.cons (.name 6) (.cons (.name 7) .nil)) (.cons (.cons (.name 8) (.cons (.name 9) .nil)) .nil)) (.tup (.cons (.dget 2 (.ix (.var 0) (.cst (.int 0)))) (.cons (.dget 2 (.ix (.var 1) (.cst (.int 0)))) .nil)))) (.seq (.set (.name 3) (.bin .sub (.bin .mul (.var 6) (.var 9)) (.bin .mul (.var 7) (.var 8)))) (.seq (.set (.name 4) (.bin .sub (.bin .mul (.ix (.var 0) (.cst (.int 1))) (.var 9)) (.bin .mul (.ix (.var 1) (.cst (.int 1))) (.var 7)))) (.seq (.set (.name 5) (.bin .sub (.bin .mul (.var 6) (.ix (.var 1) (.cst (.int 1)))) (.bin .mul (.var 8) (.ix (.var 0) (.cst (.int 1)))))) (.seq (.ret (.tup (.cons (.bin .fdiv (.bin .mul (.cst (.int 2)) (.var 4)) (.var 3)) (.cons (.bin .fdiv (.bin .mul (.cst (.int 2)) (.var 5)) (.var 3)) .nil)))) .skip))))))⟩
abbrev s66 : Stmt := top 72
def N66 : List Str := [("_law_one" : Str), ("_law_other" : Str), ("_law_rows" : Str), ("_law_off" : Str), ("_law_kind" : Str), ("_law_x" : Str), ("_law_y" : Str), ("_law_e" : Str), ("_law_f" : Str), ("_law_a" : Str), ("_law_b" : Str), ("_law_c" : Str), ("_law_d" : Str)]
def p66 : List Str := [("_law_one" : Str), ("_law_other" : Str)]
def F66 : Df := ⟨2, 13, false, false, (.seq (.own 2 (.dict ["upright", "level", "up", "down"] (.cons (.tup (.cons (.cst (.int 1)) (.cons (.cst (.int 0)) .nil))) (.cons (.tup (.cons (.cst (.int 0)) (.cons (.cst (.int 1)) .nil))) (.cons (.tup (.cons (.cst (.int 1)) (.cons (.neg (.cst (.int 1))) .nil))) (.cons (.tup (.cons (.cst (.int 1)) (.cons (.cst (.int 1)) .nil))) .nil)))))) (.seq (.set (.cons (.cons (.name 9) (.cons (.name 10) .nil)) (.cons (.cons (.name 11) (.cons (.name 12) .nil)) .nil)) (.tup (.cons (.dget 2 (.ix (.var 0) (.cst (.int 0)))) (.cons (.dget 2 (.ix (.var 1) (.cst (.int 0)))) .nil)))) (.seq (.par [5, 6] (.cons (.bin .mul (.ix (.var 0) (.cst (.int 1))) (.var 9)) (.cons (.bin .mul (.ix (.var 0) (.cst (.int 1))) (.var 10)) .nil))) (.seq (.cond (.cmp .eq (.bin .mul (.var 9) (.var 10)) (.cst (.int 0))) (.seq (.par [5, 6] (.cons (.bin .mul (.cst (.int 2)) (.var 5)) (.cons (.bin .mul (.cst (.int 2)) (.var 6)) .nil))) .skip) .skip) (.seq (.set (.name 3) (.bin .mul (.bin .sub (.bin .add (.bin .mul (.var 11) (.var 5)) (.bin .mul (.var 12) (.var 6))) (.bin .mul (.cst (.int 2)) (.ix (.var 1) (.cst (.int 1))))) (.ite (.cmp .eq (.bin .mul (.var 11) (.var 12)) (.cst (.int 0))) (.cst (.int 2)) (.cst (.int 1))))) (.seq (.par [5, 6] (.cons (.bin .sub (.var 5) (.bin .mul (.var 11) (.var 3))) (.cons (.bin .sub (.var 6) (.bin .mul (.var 12) (.var 3))) .nil))) (.seq (.set (.name 4) (.call 17 (.cons (.ix (.var 0) (.cst (.int 0))) (.cons (.ix (.var 1) (.cst (.int 0))) .nil)))) (.seq (.set (.cons (.name 7) (.cons (.name 8) .nil)) (.dget 2 (.var 4))) (.seq (.ret (.tup (.cons (.var 4) (.cons (.bin .fdiv (.bin .add (.bin .mul (.var 7) (.var 5)) (.bin .mul (.var 8) (.var 6))) (.cst (.int 2))) .nil)))) .skip)))))))))⟩
abbrev s67 : Stmt := top 73
def N67 : List Str := [("_law_line" : Str), ("_law_width" : Str), ("_law_height" : Str), ("_law_low" : Str), ("_law_high" : Str), ("_law_kind" : Str), ("_law_place" : Str)]
def p67 : List Str := [("_law_line" : Str), ("_law_width" : Str), ("_law_height" : Str)]
def F67 : Df := ⟨3, 7, false, false, (.seq (.set (.cons (.name 5) (.cons (.name 6) .nil)) (.var 0)) (.seq (.set (.name 3) (.ite (.cmp .eq (.var 5) (.cst (.str "up"))) (.neg (.var 2)) (.cst (.int 0)))) (.seq (.set (.name 4) (.dix ["upright", "level", "up", "down"] (.cons (.var 1) (.cons (.var 2) (.cons (.var 1) (.cons (.bin .add (.var 1) (.var 2)) .nil)))) (.var 5))) (.seq (.ret (.chain .lt .lt (.var 3) (.var 6) (.var 4))) .skip))))⟩
abbrev s68 : Stmt := top 74
def N68 : List Str := [("_law_step_here" : Str), ("_law_one" : Str), ("_law_other" : Str), ("_law_width" : Str), ("_law_height" : Str), ("_law_far" : Str), ("_law_line" : Str), ("_law_x" : Str), ("_law_y" : Str)]
def p68 : List Str := [("_law_step_here" : Str), ("_law_one" : Str), ("_law_other" : Str), ("_law_width" : Str), ("_law_height" : Str)]
def F68 : Df := ⟨5, 9, false, false, (.seq (.cond (.cmp .eq (.ix (.var 0) (.cst (.int 0))) (.cst (.str "through"))) (.seq (.set (.cons (.name 7) (.cons (.name 8) .nil)) (.call 65 (.cons (.var 1) (.cons (.var 2) .nil)))) (.seq (.cond (.not (.and (.chain .le .le (.cst (.int 0)) (.var 7) (.bin .mul (.cst (.int 2)) (.var 3))) (.chain .le .le (.cst (.int 0)) (.var 8) (.bin .mul (.cst (.int 2)) (.var 4))))) (.seq (.ret (.cst .none)) .skip) .skip) (.seq (.set (.name 5) (.dix ["upright", "level", "up", "down"] (.cons (.var 7) (.cons (.var 8) (.cons (.bin .sub (.var 7) (.var 8)) (.cons (.bin .add (.var 7) (.var 8)) .nil)))) (.ix (.var 0) (.cst (.int 3))))) (.seq (.set (.name 6) (.tup (.cons (.ix (.var 0) (.cst (.int 3))) (.cons (.bin .fdiv (.var 5) (.cst (.int 2))) .nil)))) .skip)))) (.seq (.cond (.cmp .eq (.ix (.var 0) (.cst (.int 0))) (.cst (.str "mirror"))) (.seq (.set (.name 6) (.call 66 (.cons (.var 1) (.cons (.var 2) .nil)))) .skip) (.seq (.cond (.cmp .eq (.ix (.var 1) (.cst (.int 1))) (.ix (.var 2) (.cst (.int 1)))) (.seq (.ret (.cst .none)) .skip) .skip) (.seq (.set (.name 6) (.tup (.cons (.ix (.var 1) (.cst (.int 0))) (.cons (.bin .add (.ix (.var 1) (.cst (.int 1))) (.bin .fdiv (.bin .sub (.ix (.var 2) (.cst (.int 1))) (.ix (.var 1) (.cst (.int 1)))) (.ite (.cmp .eq (.ix (.var 0) (.cst (.int 0))) (.cst (.str "middle"))) (.cst (.int 2)) (.cst (.int 3))))) .nil)))) .skip))) .skip)) (.seq (.ret (.ite (.tru (.call 67 (.cons (.var 6) (.cons (.var 3) (.cons (.var 4) .nil))))) (.var 6) (.cst .none))) .skip))⟩
abbrev s69 : Stmt := top 75
def N69 : List Str := [("_law_plan_here" : Str), ("_law_ratio" : Str), ("_law_found" : Str), ("_law_step_here" : Str), ("_law_width" : Str), ("_law_height" : Str), ("_law_gone" : Str), ("_law_one" : Str), ("_law_other" : Str)]
def p69 : List Str := [("_law_plan_here" : Str), ("_law_ratio" : Str)]
def F69 : Df := ⟨2, 9, false, false, (.seq (.par [4, 5] (.cons (.bin .mul (.cst (.int 46656)) (.ix (.var 1) (.cst (.int 0)))) (.cons (.bin .mul (.cst (.int 46656)) (.ix (.var 1) (.cst (.int 1)))) .nil))) (.seq (.own 2 (.lst (.cons (.tup (.cons (.cst (.str "upright")) (.cons (.cst (.int 0)) .nil))) (.cons (.tup (.cons (.cst (.str "level")) (.cons (.cst (.int 0)) .nil))) (.cons (.tup (.cons (.cst (.str "upright")) (.cons (.var 4) .nil))) (.cons (.tup (.cons (.cst (.str "level")) (.cons (.var 5) .nil))) .nil)))))) (.seq (.loop (.name 3) .seq (.cons (.var 0) .nil) (.seq (.par [7, 8] (.cons (.ix (.var 2) (.ix (.var 3) (.cst (.int 1)))) (.cons (.ix (.var 2) (.ix (.var 3) (.cst (.int 2)))) .nil))) (.seq (.set (.name 6) (.or (.isN false (.var 7)) (.isN false (.var 8)))) (.seq (.app 2 (.ite (.tru (.var 6)) (.cst .none) (.call 68 (.cons (.var 3) (.cons (.var 7) (.cons (.var 8) (.cons (.var 4) (.cons (.var 5) .nil)))))))) .skip)))) (.seq (.ret (.var 2)) .skip))))⟩
abbrev s78 : Stmt := top 76
def N78 : List Str := [("_law_one" : Str), ("_law_other" : Str)]
def p78 : List Str := [("_law_one" : Str), ("_law_other" : Str)]
def F78 : Df := ⟨2, 2, false, false, (.seq (.ret (.cmp .lt (.bin .mul (.ix (.var 0) (.cst (.int 0))) (.ix (.var 1) (.cst (.int 1)))) (.bin .mul (.ix (.var 1) (.cst (.int 0))) (.ix (.var 0) (.cst (.int 1)))))) .skip)⟩
abbrev s79 : Stmt := top 77
def N79 : List Str := [("_law_stretch" : Str), ("_law_ratio" : Str), ("_law_low" : Str), ("_law_with_low" : Str), ("_law_high" : Str), ("_law_with_high" : Str)]
def p79 : List Str := [("_law_stretch" : Str), ("_law_ratio" : Str)]
def F79 : Df := ⟨2, 6, false, false, (.seq (.set (.cons (.name 2) (.cons (.name 3) (.cons (.name 4) (.cons (.name 5) .nil)))) (.var 0)) (.seq (.cond (.or (.cmp .eq (.var 2) (.var 1)) (.cmp .eq (.var 4) (.var 1))) (.seq (.ret (.ite (.cmp .eq (.var 2) (.var 1)) (.var 3) (.var 5))) .skip) .skip) (.seq (.ret (.and (.call 78 (.cons (.var 2) (.cons (.var 1) .nil))) (.call 78 (.cons (.var 1) (.cons (.var 4) .nil))))) .skip)))⟩
abbrev s21 : Stmt := top 78
def N21 : List Str := [("_law_peak" : Str), ("_law_found" : Str), ("_law_whole" : Str), ("_law_top" : Str)]
def p21 : List Str := [("_law_peak" : Str)]
def F21 : Df := ⟨1, 4, false, true, (.seq (.own 1 (.lst .nil)) (.seq (.loop (.name 2) .rng2 (.cons (.cst (.int 2)) (.cons (.bin .add (.var 0) (.cst (.int 1))) .nil)) (.seq (.loop (.name 3) .rng2 (.cons (.cst (.int 1)) (.cons (.var 2) .nil)) (.seq (.cond (.cmp .eq (.call 16 (.cons (.var 3) (.cons (.bin .sub (.var 2) (.var 3)) .nil))) (.tup (.cons (.var 3) (.cons (.bin .sub (.var 2) (.var 3)) .nil)))) (.seq (.app 1 (.tup (.cons (.var 3) (.cons (.bin .sub (.var 2) (.var 3)) .nil)))) .skip) .skip) .skip)) .skip)) (.seq (.retO 1) .skip)))⟩
abbrev s22 : Stmt := top 79
def N22 : List Str := [("_law_bag_here" : Str), ("_law_points" : Str), ("_law_found" : Str), ("_law_turn" : Str), ("_law_top" : Str), ("_law_below" : Str)]
def p22 : List Str := [("_law_bag_here" : Str), ("_law_points" : Str)]
def F22 : Df := ⟨2, 6, true, false, (.seq (.own 2 (.call 21 (.cons (.cst (.int 12)) .nil))) (.seq (.loop (.cons (.name 4) (.cons (.name 5) .nil)) .seq (.cons (.var 1) .nil) (.seq (.cond (.and (.cmp .gt (.var 4) (.cst (.int 0))) (.cmp .gt (.var 5) (.cst (.int 0)))) (.seq (.own 2 (.bin .add (.var 2) (.lst (.cons (.tup (.cons (.var 4) (.cons (.var 5) .nil))) (.cons (.call 16 (.cons (.bin .add (.bin .mul (.var 4) (.bin .pow (.cst (.int 10)) (.cst (.int 6)))) (.cst (.int 1))) (.cons (.bin .mul (.var 5) (.bin .pow (.cst (.int 10)) (.cst (.int 6)))) .nil))) .nil))))) (.seq (.app 2 (.call 16 (.cons (.bin .mul (.var 4) (.bin .pow (.cst (.int 10)) (.cst (.int 6)))) (.cons (.bin .add (.bin .mul (.var 5) (.bin .pow (.cst (.int 10)) (.cst (.int 6)))) (.cst (.int 1))) .nil)))) .skip)) .skip) .skip)) (.seq (.loop (.name 3) .rng1 (.cons (.cst (.int 8)) .nil) (.seq (.app 2 (.call 16 (.cons (.bin .add (.cst (.int 1)) (.callIo 14 0 (.cons (.bin .pow (.cst (.int 10)) (.cst (.int 5))) .nil))) (.cons (.bin .add (.cst (.int 1)) (.callIo 14 0 (.cons (.bin .pow (.cst (.int 10)) (.cst (.int 5))) .nil))) .nil)))) .skip)) (.seq (.ret (.var 2)) .skip))))⟩
abbrev s80 : Stmt := top 80
def N80 : List Str := [("_law_ranges_so" : Str), ("_law_stretch" : Str)]
def p80 : List Str := [("_law_ranges_so" : Str)]
def F80 : Df := ⟨1, 2, false, false, (.seq (.ret (.bin .add (.lc (.name 1) .seq (.cons (.var 0) .nil) .nil (.ix (.var 1) (.cst (.int 0)))) (.lc (.name 1) .seq (.cons (.var 0) .nil) .nil (.ix (.var 1) (.cst (.int 2)))))) .skip)⟩
abbrev s93 : Stmt := top 81
def N93 : List Str := [("_law_ranges_so" : Str), ("_law_at" : Str), ("_law_low" : Str), ("_law_with_low" : Str), ("_law_high" : Str), ("_law_with_high" : Str), ("_law_one" : Str), ("_law_other" : Str)]
def p93 : List Str := [("_law_ranges_so" : Str)]
def F93 : Df := ⟨1, 8, false, false, (.seq (.loop (.cons (.name 2) (.cons (.name 3) (.cons (.name 4) (.cons (.name 5) .nil)))) .seq (.cons (.var 0) .nil) (.seq (.cond (.or (.tru (.call 78 (.cons (.var 4) (.cons (.var 2) .nil)))) (.and (.cmp .eq (.var 2) (.var 4)) (.not (.and (.tru (.var 3)) (.tru (.var 5)))))) (.seq (.ret (.cst (.bool false))) .skip) .skip) .skip)) (.seq (.loop (.name 1) .rng1 (.cons (.bin .sub (.bi .len (.cons (.var 0) .nil)) (.cst (.int 1))) .nil) (.seq (.par [6, 7] (.cons (.ix (.var 0) (.var 1)) (.cons (.ix (.var 0) (.bin .add (.var 1) (.cst (.int 1)))) .nil))) (.seq (.cond (.or (.tru (.call 78 (.cons (.ix (.var 7) (.cst (.int 0))) (.cons (.ix (.var 6) (.cst (.int 2))) .nil)))) (.and (.cmp .eq (.ix (.var 6) (.cst (.int 2))) (.ix (.var 7) (.cst (.int 0)))) (.or (.tru (.ix (.var 6) (.cst (.int 3)))) (.tru (.ix (.var 7) (.cst (.int 1))))))) (.seq (.ret (.cst (.bool false))) .skip) .skip) .skip))) (.seq (.ret (.cst (.bool true))) .skip)))⟩
abbrev s71 : Stmt := top 82
def N71 : List Str := [("_law_e" : Str), ("_law_some_here" : Str), ("_law_words" : Str), ("_law_word" : Str), ("_law_good" : Str)]
def p71 : List Str := [("_law_e" : Str)]
abbrev s24 : Stmt := top 83
def N24 : List Str := [("_law_call" : Str), ("_law_e" : Str)]
def p24 : List Str := [("_law_call" : Str)]
abbrev s94 : Stmt := top 84
def N94 : List Str := [("_law_plan_here" : Str), ("_law_ratio" : Str), ("_law_one" : Str), ("_law_other" : Str), ("_law_lines_here" : Str)]
def p94 : List Str := [("_law_plan_here" : Str), ("_law_ratio" : Str), ("_law_one" : Str), ("_law_other" : Str)]
def F94 : Df := ⟨4, 5, false, false, (.seq (.set (.name 4) (.call 69 (.cons (.var 0) (.cons (.var 1) .nil)))) (.seq (.ret (.and (.isN true (.ix (.var 4) (.var 2))) (.cmp .eq (.ix (.var 4) (.var 2)) (.ix (.var 4) (.var 3))))) .skip))⟩
abbrev s95 : Stmt := top 85
def N95 : List Str := [("_law_plan_here" : Str), ("_law_one" : Str), ("_law_other" : Str), ("_law_ratio" : Str)]
def p95 : List Str := [("_law_plan_here" : Str), ("_law_one" : Str), ("_law_other" : Str)]
def F95 : Df := ⟨3, 4, false, false, (.seq (.ret (.lc (.name 3) .seq (.cons (.call 21 (.cons (.cst (.int 30)) .nil)) .nil) (.tru (.call 94 (.cons (.var 0) (.cons (.var 3) (.cons (.var 1) (.cons (.var 2) .nil)))))) (.var 3))) .skip)⟩
abbrev s96 : Stmt := top 86
def N96 : List Str := [("_law_script" : Str), ("_law_k" : Str), ("_law_plan_here" : Str), ("_law_bag_here" : Str), ("_law_turn" : Str), ("_law_odd" : Str), ("_law_found" : Str), ("_law_some_here" : Str), ("_law_ratio" : Str), ("_law_words" : Str), ("_law_one" : Str), ("_law_other" : Str), ("_law_here" : Str), ("_law_stretch" : Str)]
def p96 : List Str := [("_law_script" : Str)]
def F96 : Df := ⟨1, 14, false, false, (.seq (.loop (.name 1) .rng1 (.cons (.cst (.int 6)) .nil) (.seq (.own 3 (.call 13 (.cons (.var 0) (.cons (.var 1) .nil)))) (.seq (.set (.name 2) (.callIo 20 3 (.cons (.cst (.int 6)) .nil))) (.seq (.loop (.name 4) .rng1 (.cons (.cst (.int 4)) .nil) (.seq (.par [10, 11] (.cons (.callIo 14 3 (.cons (.bin .add (.bi .len (.cons (.var 2) .nil)) (.cst (.int 4))) .nil)) (.cons (.callIo 14 3 (.cons (.bin .add (.bi .len (.cons (.var 2) .nil)) (.cst (.int 4))) .nil)) .nil))) (.seq (.set (.name 6) (.call 92 (.cons (.var 2) (.cons (.var 10) (.cons (.var 11) .nil))))) (.seq (.cond (.or (.not (.tru (.call 93 (.cons (.var 6) .nil)))) (.cmp .ne (.call 92 (.cons (.var 2) (.cons (.var 11) (.cons (.var 10) .nil)))) (.var 6))) (.seq (.ret (.cst (.bool false))) .skip) .skip) (.seq (.set (.name 7) (.callIo 22 3 (.cons (.bin .add (.call 80 (.cons (.var 6) .nil)) (.sl (.call 95 (.cons (.var 2) (.cons (.var 10) (.cons (.var 11) .nil)))) .nil (.cst (.int 6)))) .nil))) (.seq (.loop (.name 8) .seq (.cons (.var 7) .nil) (.seq (.set (.name 12) (.bi .len (.cons (.lc (.name 13) .seq (.cons (.var 6) .nil) (.tru (.call 79 (.cons (.var 13) (.cons (.var 8) .nil)))) (.var 13)) .nil))) (.seq (.cond (.or (.cmp .ne (.cmp .eq (.var 12) (.cst (.int 1))) (.call 94 (.cons (.var 2) (.cons (.var 8) (.cons (.var 10) (.cons (.var 11) .nil)))))) (.cmp .gt (.var 12) (.cst (.int 1)))) (.seq (.ret (.cst (.bool false))) .skip) .skip) .skip))) .skip)))))) (.seq (.loop (.name 5) .seq (.cons (.lst (.cons (.neg (.cst (.int 1))) (.cons (.bin .add (.bi .len (.cons (.var 2) .nil)) (.cst (.int 4))) (.cons (.cst (.bool true)) (.cons (.cst .none) .nil))))) .nil) (.seq (.own 9 (.lst (.cons (.lam 24 (.call 92 (.cons (.var 2) (.cons (.var 5) (.cons (.cst .none) .nil))))) .nil))) (.seq (.app 9 (.lam 24 (.call 92 (.cons (.var 2) (.cons (.cst (.int 0)) (.cons (.var 5) .nil)))))) (.seq (.cond (.cmp .ne (.var 9) (.lrep (.cons (.cst (.str "number value")) .nil) 2)) (.seq (.ret (.cst (.bool false))) .skip) .skip) .skip)))) (.seq (.cond (.cmp .ne (.lam 24 (.call 92 (.cons (.tup .nil) (.cons (.cst (.int 0)) (.cons (.cst (.int 4)) .nil))))) (.cst (.str "number value"))) (.seq (.ret (.cst (.bool false))) .skip) .skip) .skip)))))) (.seq (.set (.name 2) (.tup (.cons (.tup (.cons (.cst (.str "through")) (.cons (.cst (.int 0)) (.cons (.cst (.int 1)) (.cons (.cst (.str "up")) .nil))))) (.cons (.tup (.cons (.cst (.str "through")) (.cons (.cst (.int 4)) (.cons (.cst (.int 3)) (.cons (.cst (.str "upright")) .nil))))) (.cons (.tup (.cons (.cst (.str "middle")) (.cons (.cst (.int 0)) (.cons (.cst (.int 2)) .nil)))) .nil))))) (.seq (.ret (.and (.cmp .eq (.call 92 (.cons (.var 2) (.cons (.cst (.int 5)) (.cons (.cst (.int 6)) .nil)))) (.lst (.cons (.tup (.cons (.tup (.cons (.cst (.int 2)) (.cons (.cst (.int 1)) .nil))) (.cons (.cst (.bool true)) (.cons (.tup (.cons (.cst (.int 2)) (.cons (.cst (.int 1)) .nil))) (.cons (.cst (.bool true)) .nil))))) .nil))) (.cmp .eq (.call 92 (.cons (.var 2) (.cons (.cst (.int 1)) (.cons (.cst (.int 3)) .nil)))) (.lst .nil)))) .skip)))⟩
def fnL : List (Nat × Str) := [(0, ("is_plain" : Str)), (1, ("is_whole" : Str)), (2, ("divisor_of" : Str)), (31, ("lowest" : Str)), (5, ("image_kind" : Str)), (6, ("next_kind" : Str)), (7, ("kinds_of" : Str)), (8, ("is_plan" : Str)), (9, ("need_plan" : Str)), (33, ("need_number" : Str)), (34, ("plus" : Str)), (35, ("minus" : Str)), (36, ("shared" : Str)), (37, ("twice" : Str)), (38, ("worth" : Str)), (39, ("root_of" : Str)), (40, ("is_less" : Str)), (41, ("root_in" : Str)), (42, ("inner" : Str)), (43, ("sign_in" : Str)), (44, ("cut_at" : Str)), (45, ("first_root" : Str)), (46, ("crossing" : Str)), (47, ("line_through" : Str)), (48, ("image_of" : Str)), (49, ("inside_lengths" : Str)), (50, ("asked" : Str)), (51, ("advanced" : Str)), (74, ("course" : Str)), (84, ("refined" : Str)), (75, ("range_of" : Str)), (76, ("joined" : Str)), (90, ("ranges_true" : Str)), (91, ("same_rows" : Str)), (92, ("same_line" : Str)), (11, ("_law_cell" : Str)), (12, ("_law_draws" : Str)), (13, ("_law_bag" : Str)), (14, ("_law_take" : Str)), (15, ("_law_choice" : Str)), (16, ("_law_lowest" : Str)), (17, ("_law_turned_kind" : Str)), (18, ("_law_step" : Str)), (19, ("_law_kinds" : Str)), (20, ("_law_plan" : Str)), (65, ("_law_point" : Str)), (66, ("_law_image" : Str)), (67, ("_law_inside" : Str)), (68, ("_law_made" : Str)), (69, ("_law_lines" : Str)), (78, ("_law_less" : Str)), (79, ("_law_in" : Str)), (21, ("_law_simple" : Str)), (22, ("_law_some" : Str)), (80, ("_law_ends" : Str)), (93, ("_law_apart" : Str)), (94, ("_law_are_one" : Str)), (95, ("_law_meeting" : Str)), (96, ("law" : Str))]
def dfL : List (Nat × Df) := [(0, F0), (1, F1), (2, F2), (31, F31), (5, F5), (6, F6), (7, F7), (8, F8), (9, F9), (33, F33), (34, F34), (35, F35), (36, F36), (37, F37), (38, F38), (39, F39), (40, F40), (41, F41), (42, F42), (43, F43), (44, F44), (45, F45), (46, F46), (47, F47), (48, F48), (49, F49), (50, F50), (51, F51), (74, F74), (84, F84), (75, F75), (76, F76), (90, F90), (91, F91), (92, F92), (11, F11), (12, F12), (13, F13), (14, F14), (15, F15), (16, F16), (17, F17), (18, F18), (19, F19), (20, F20), (65, F65), (66, F66), (67, F67), (68, F68), (69, F69), (78, F78), (79, F79), (21, F21), (22, F22), (80, F80), (93, F93), (94, F94), (95, F95), (96, F96)]
def ioL : List Nat := [14, 15, 18, 20, 22]
def ownL : List Nat := [12, 13, 21]
def lnL : List (Nat × Str) := [(24, ("_law_error" : Str))]
def glL : List (Nat × Str) := [(0, ("KINDS" : Str)), (1, ("EDGES" : Str)), (2, ("MOST_STEPS" : Str)), (8, ("LOW" : Str)), (9, ("HIGH" : Str)), (4, ("WIDTH" : Str)), (5, ("HEIGHT" : Str)), (6, ("NONE" : Str)), (7, ("EDGE_LINES" : Str))]
def gdL : List (Nat × PyData) := [(0, (.tuple [(.str "upright"), (.str "level"), (.str "up"), (.str "down")])), (1, (.tuple [(.str "upright"), (.str "level"), (.str "upright"), (.str "level")])), (2, (.int 6)), (8, (.tuple [(.int 0), (.int 1)])), (9, (.tuple [(.int 1), (.int 0)])), (4, (.tuple [(.int 46656), (.int 0)])), (5, (.tuple [(.int 0), (.int 46656)])), (6, (.tuple [(.int 0), (.int 0)])), (7, (.tuple [(.tuple [(.str "upright"), (.tuple [(.int 0), (.int 0)])]), (.tuple [(.str "level"), (.tuple [(.int 0), (.int 0)])]), (.tuple [(.str "upright"), (.tuple [(.int 46656), (.int 0)])]), (.tuple [(.str "level"), (.tuple [(.int 0), (.int 46656)])])]))]
def xnL : List (Nat × Str) := [(1, ("InvalidPlan" : Str)), (3, ("InvalidNumber" : Str))]
def woL : List (Nat × Str) := [(1, ("plan value" : Str)), (3, ("number value" : Str))]
def words (c : Nat) : Option Str := asc woL c
def T : Tx := { fn := asc fnL, io := fun f => ioL.contains f, own := fun f => ownL.contains f, gl := asc glL, xn := asc xnL, ln := asc lnL, lamb := false }
def Q : Prog := { defs := asc dfL, glb := asc gdL, lam := fun f => if f = 24 then errG words else fun _ => none }
theorem dOk : DefsOk T Q := defs_of (fnL := fnL) (dfL := dfL) (ioL := ioL) (ownL := ownL) rfl rfl rfl rfl (by decide +kernel)
theorem c0 : DefC { T with lamb := false } N0 p0 F0 s0 := ⟨⟨rfl, rfl, rfl, by decide +kernel, rfl, by decide +kernel, by decide +kernel⟩, rfl, rfl, by decide, by decide +kernel⟩
theorem c1 : DefC { T with lamb := false } N1 p1 F1 s1 := ⟨⟨rfl, rfl, rfl, by decide +kernel, rfl, by decide +kernel, by decide +kernel⟩, rfl, rfl, by decide, by decide +kernel⟩
theorem c2 : DefC { T with lamb := false } N2 p2 F2 s2 := ⟨⟨rfl, rfl, rfl, by decide +kernel, rfl, by decide +kernel, by decide +kernel⟩, rfl, rfl, by decide, by decide +kernel⟩
theorem c31 : DefC { T with lamb := false } N31 p31 F31 s31 := ⟨⟨rfl, rfl, rfl, by decide +kernel, rfl, by decide +kernel, by decide +kernel⟩, rfl, rfl, by decide, by decide +kernel⟩
theorem c5 : DefC { T with lamb := false } N5 p5 F5 s5 := ⟨⟨rfl, rfl, rfl, by decide +kernel, rfl, by decide +kernel, by decide +kernel⟩, rfl, rfl, by decide, by decide +kernel⟩
theorem c6 : DefC { T with lamb := false } N6 p6 F6 s6 := ⟨⟨rfl, rfl, rfl, by decide +kernel, rfl, by decide +kernel, by decide +kernel⟩, rfl, rfl, by decide, by decide +kernel⟩
theorem c7 : DefC { T with lamb := false } N7 p7 F7 s7 := ⟨⟨rfl, rfl, rfl, by decide +kernel, rfl, by decide +kernel, by decide +kernel⟩, rfl, rfl, by decide, by decide +kernel⟩
theorem c8 : DefC { T with lamb := false } N8 p8 F8 s8 := ⟨⟨rfl, rfl, rfl, by decide +kernel, rfl, by decide +kernel, by decide +kernel⟩, rfl, rfl, by decide, by decide +kernel⟩
theorem c9 : DefC { T with lamb := false } N9 p9 F9 s9 := ⟨⟨rfl, rfl, rfl, by decide +kernel, rfl, by decide +kernel, by decide +kernel⟩, rfl, rfl, by decide, by decide +kernel⟩
theorem c33 : DefC { T with lamb := false } N33 p33 F33 s33 := ⟨⟨rfl, rfl, rfl, by decide +kernel, rfl, by decide +kernel, by decide +kernel⟩, rfl, rfl, by decide, by decide +kernel⟩
theorem c34 : DefC { T with lamb := false } N34 p34 F34 s34 := ⟨⟨rfl, rfl, rfl, by decide +kernel, rfl, by decide +kernel, by decide +kernel⟩, rfl, rfl, by decide, by decide +kernel⟩
theorem c35 : DefC { T with lamb := false } N35 p35 F35 s35 := ⟨⟨rfl, rfl, rfl, by decide +kernel, rfl, by decide +kernel, by decide +kernel⟩, rfl, rfl, by decide, by decide +kernel⟩
theorem c36 : DefC { T with lamb := false } N36 p36 F36 s36 := ⟨⟨rfl, rfl, rfl, by decide +kernel, rfl, by decide +kernel, by decide +kernel⟩, rfl, rfl, by decide, by decide +kernel⟩
theorem c37 : DefC { T with lamb := false } N37 p37 F37 s37 := ⟨⟨rfl, rfl, rfl, by decide +kernel, rfl, by decide +kernel, by decide +kernel⟩, rfl, rfl, by decide, by decide +kernel⟩
theorem c38 : DefC { T with lamb := false } N38 p38 F38 s38 := ⟨⟨rfl, rfl, rfl, by decide +kernel, rfl, by decide +kernel, by decide +kernel⟩, rfl, rfl, by decide, by decide +kernel⟩
theorem c39 : DefC { T with lamb := false } N39 p39 F39 s39 := ⟨⟨rfl, rfl, rfl, by decide +kernel, rfl, by decide +kernel, by decide +kernel⟩, rfl, rfl, by decide, by decide +kernel⟩
theorem c40 : DefC { T with lamb := false } N40 p40 F40 s40 := ⟨⟨rfl, rfl, rfl, by decide +kernel, rfl, by decide +kernel, by decide +kernel⟩, rfl, rfl, by decide, by decide +kernel⟩
theorem c41 : DefC { T with lamb := false } N41 p41 F41 s41 := ⟨⟨rfl, rfl, rfl, by decide +kernel, rfl, by decide +kernel, by decide +kernel⟩, rfl, rfl, by decide, by decide +kernel⟩
theorem c42 : DefC { T with lamb := false } N42 p42 F42 s42 := ⟨⟨rfl, rfl, rfl, by decide +kernel, rfl, by decide +kernel, by decide +kernel⟩, rfl, rfl, by decide, by decide +kernel⟩
theorem c43 : DefC { T with lamb := false } N43 p43 F43 s43 := ⟨⟨rfl, rfl, rfl, by decide +kernel, rfl, by decide +kernel, by decide +kernel⟩, rfl, rfl, by decide, by decide +kernel⟩
theorem c44 : DefC { T with lamb := false } N44 p44 F44 s44 := ⟨⟨rfl, rfl, rfl, by decide +kernel, rfl, by decide +kernel, by decide +kernel⟩, rfl, rfl, by decide, by decide +kernel⟩
theorem c45 : DefC { T with lamb := false } N45 p45 F45 s45 := ⟨⟨rfl, rfl, rfl, by decide +kernel, rfl, by decide +kernel, by decide +kernel⟩, rfl, rfl, by decide, by decide +kernel⟩
theorem c46 : DefC { T with lamb := false } N46 p46 F46 s46 := ⟨⟨rfl, rfl, rfl, by decide +kernel, rfl, by decide +kernel, by decide +kernel⟩, rfl, rfl, by decide, by decide +kernel⟩
theorem c47 : DefC { T with lamb := false } N47 p47 F47 s47 := ⟨⟨rfl, rfl, rfl, by decide +kernel, rfl, by decide +kernel, by decide +kernel⟩, rfl, rfl, by decide, by decide +kernel⟩
theorem c48 : DefC { T with lamb := false } N48 p48 F48 s48 := ⟨⟨rfl, rfl, rfl, by decide +kernel, rfl, by decide +kernel, by decide +kernel⟩, rfl, rfl, by decide, by decide +kernel⟩
theorem c49 : DefC { T with lamb := false } N49 p49 F49 s49 := ⟨⟨rfl, rfl, rfl, by decide +kernel, rfl, by decide +kernel, by decide +kernel⟩, rfl, rfl, by decide, by decide +kernel⟩
theorem c50 : DefC { T with lamb := false } N50 p50 F50 s50 := ⟨⟨rfl, rfl, rfl, by decide +kernel, rfl, by decide +kernel, by decide +kernel⟩, rfl, rfl, by decide, by decide +kernel⟩
theorem c51 : DefC { T with lamb := false } N51 p51 F51 s51 := ⟨⟨rfl, rfl, rfl, by decide +kernel, rfl, by decide +kernel, by decide +kernel⟩, rfl, rfl, by decide, by decide +kernel⟩
theorem c74 : DefC { T with lamb := false } N74 p74 F74 s74 := ⟨⟨rfl, rfl, rfl, by decide +kernel, rfl, by decide +kernel, by decide +kernel⟩, rfl, rfl, by decide, by decide +kernel⟩
theorem c84 : DefC { T with lamb := false } N84 p84 F84 s84 := ⟨⟨rfl, rfl, rfl, by decide +kernel, rfl, by decide +kernel, by decide +kernel⟩, rfl, rfl, by decide, by decide +kernel⟩
theorem c75 : DefC { T with lamb := false } N75 p75 F75 s75 := ⟨⟨rfl, rfl, rfl, by decide +kernel, rfl, by decide +kernel, by decide +kernel⟩, rfl, rfl, by decide, by decide +kernel⟩
theorem c76 : DefC { T with lamb := false } N76 p76 F76 s76 := ⟨⟨rfl, rfl, rfl, by decide +kernel, rfl, by decide +kernel, by decide +kernel⟩, rfl, rfl, by decide, by decide +kernel⟩
theorem c90 : DefC { T with lamb := false } N90 p90 F90 s90 := ⟨⟨rfl, rfl, rfl, by decide +kernel, rfl, by decide +kernel, by decide +kernel⟩, rfl, rfl, by decide, by decide +kernel⟩
theorem c91 : DefC { T with lamb := false } N91 p91 F91 s91 := ⟨⟨rfl, rfl, rfl, by decide +kernel, rfl, by decide +kernel, by decide +kernel⟩, rfl, rfl, by decide, by decide +kernel⟩
theorem c92 : DefC { T with lamb := false } N92 p92 F92 s92 := ⟨⟨rfl, rfl, rfl, by decide +kernel, rfl, by decide +kernel, by decide +kernel⟩, rfl, rfl, by decide, by decide +kernel⟩
theorem c11 : DefC { T with lamb := false } N11 p11 F11 s11 := ⟨⟨rfl, rfl, rfl, by decide +kernel, rfl, by decide +kernel, by decide +kernel⟩, rfl, rfl, by decide, by decide +kernel⟩
theorem c12 : DefC { T with lamb := false } N12 p12 F12 s12 := ⟨⟨rfl, rfl, rfl, by decide +kernel, rfl, by decide +kernel, by decide +kernel⟩, rfl, rfl, by decide, by decide +kernel⟩
theorem c13 : DefC { T with lamb := false } N13 p13 F13 s13 := ⟨⟨rfl, rfl, rfl, by decide +kernel, rfl, by decide +kernel, by decide +kernel⟩, rfl, rfl, by decide, by decide +kernel⟩
theorem c14 : DefC { T with lamb := false } N14 p14 F14 s14 := ⟨⟨rfl, rfl, rfl, by decide +kernel, rfl, by decide +kernel, by decide +kernel⟩, rfl, rfl, by decide, by decide +kernel⟩
theorem c15 : DefC { T with lamb := false } N15 p15 F15 s15 := ⟨⟨rfl, rfl, rfl, by decide +kernel, rfl, by decide +kernel, by decide +kernel⟩, rfl, rfl, by decide, by decide +kernel⟩
theorem c16 : DefC { T with lamb := false } N16 p16 F16 s16 := ⟨⟨rfl, rfl, rfl, by decide +kernel, rfl, by decide +kernel, by decide +kernel⟩, rfl, rfl, by decide, by decide +kernel⟩
theorem c17 : DefC { T with lamb := false } N17 p17 F17 s17 := ⟨⟨rfl, rfl, rfl, by decide +kernel, rfl, by decide +kernel, by decide +kernel⟩, rfl, rfl, by decide, by decide +kernel⟩
theorem c18 : DefC { T with lamb := false } N18 p18 F18 s18 := ⟨⟨rfl, rfl, rfl, by decide +kernel, rfl, by decide +kernel, by decide +kernel⟩, rfl, rfl, by decide, by decide +kernel⟩
theorem c19 : DefC { T with lamb := false } N19 p19 F19 s19 := ⟨⟨rfl, rfl, rfl, by decide +kernel, rfl, by decide +kernel, by decide +kernel⟩, rfl, rfl, by decide, by decide +kernel⟩
theorem c20 : DefC { T with lamb := false } N20 p20 F20 s20 := ⟨⟨rfl, rfl, rfl, by decide +kernel, rfl, by decide +kernel, by decide +kernel⟩, rfl, rfl, by decide, by decide +kernel⟩
theorem c65 : DefC { T with lamb := false } N65 p65 F65 s65 := ⟨⟨rfl, rfl, rfl, by decide +kernel, rfl, by decide +kernel, by decide +kernel⟩, rfl, rfl, by decide, by decide +kernel⟩
theorem c66 : DefC { T with lamb := false } N66 p66 F66 s66 := ⟨⟨rfl, rfl, rfl, by decide +kernel, rfl, by decide +kernel, by decide +kernel⟩, rfl, rfl, by decide, by decide +kernel⟩
theorem c67 : DefC { T with lamb := false } N67 p67 F67 s67 := ⟨⟨rfl, rfl, rfl, by decide +kernel, rfl, by decide +kernel, by decide +kernel⟩, rfl, rfl, by decide, by decide +kernel⟩
theorem c68 : DefC { T with lamb := false } N68 p68 F68 s68 := ⟨⟨rfl, rfl, rfl, by decide +kernel, rfl, by decide +kernel, by decide +kernel⟩, rfl, rfl, by decide, by decide +kernel⟩
theorem c69 : DefC { T with lamb := false } N69 p69 F69 s69 := ⟨⟨rfl, rfl, rfl, by decide +kernel, rfl, by decide +kernel, by decide +kernel⟩, rfl, rfl, by decide, by decide +kernel⟩
theorem c78 : DefC { T with lamb := false } N78 p78 F78 s78 := ⟨⟨rfl, rfl, rfl, by decide +kernel, rfl, by decide +kernel, by decide +kernel⟩, rfl, rfl, by decide, by decide +kernel⟩
theorem c79 : DefC { T with lamb := false } N79 p79 F79 s79 := ⟨⟨rfl, rfl, rfl, by decide +kernel, rfl, by decide +kernel, by decide +kernel⟩, rfl, rfl, by decide, by decide +kernel⟩
theorem c21 : DefC { T with lamb := false } N21 p21 F21 s21 := ⟨⟨rfl, rfl, rfl, by decide +kernel, rfl, by decide +kernel, by decide +kernel⟩, rfl, rfl, by decide, by decide +kernel⟩
theorem c22 : DefC { T with lamb := false } N22 p22 F22 s22 := ⟨⟨rfl, rfl, rfl, by decide +kernel, rfl, by decide +kernel, by decide +kernel⟩, rfl, rfl, by decide, by decide +kernel⟩
theorem c80 : DefC { T with lamb := false } N80 p80 F80 s80 := ⟨⟨rfl, rfl, rfl, by decide +kernel, rfl, by decide +kernel, by decide +kernel⟩, rfl, rfl, by decide, by decide +kernel⟩
theorem c93 : DefC { T with lamb := false } N93 p93 F93 s93 := ⟨⟨rfl, rfl, rfl, by decide +kernel, rfl, by decide +kernel, by decide +kernel⟩, rfl, rfl, by decide, by decide +kernel⟩
theorem sc71 : FnScope N71 p71 (defScope s71) := ⟨rfl, rfl, rfl, by decide +kernel, rfl, by decide +kernel, by decide +kernel⟩
theorem sc24 : FnScope N24 p24 (defScope s24) := ⟨rfl, rfl, rfl, by decide +kernel, rfl, by decide +kernel, by decide +kernel⟩
theorem c94 : DefC { T with lamb := false } N94 p94 F94 s94 := ⟨⟨rfl, rfl, rfl, by decide +kernel, rfl, by decide +kernel, by decide +kernel⟩, rfl, rfl, by decide, by decide +kernel⟩
theorem c95 : DefC { T with lamb := false } N95 p95 F95 s95 := ⟨⟨rfl, rfl, rfl, by decide +kernel, rfl, by decide +kernel, by decide +kernel⟩, rfl, rfl, by decide, by decide +kernel⟩
theorem c96 : DefC { T with lamb := true } N96 p96 F96 s96 := ⟨⟨rfl, rfl, rfl, by decide +kernel, rfl, by decide +kernel, by decide +kernel⟩, rfl, rfl, by decide, by decide +kernel⟩
end Lk

set_option Elab.async false
set_option linter.all false
set_option maxRecDepth 100000
set_option maxHeartbeats 4000000
/-! PA: runs with a wanted end; words. -/
namespace Lk
open PySem Fo
/-- a run that ends well, with an end of which P stands -/
def wp {α : Type} (r : R α) (P : α → Prop) : Prop := ∃ a, r = .ok a ∧ P a
section
variable {α β : Type} {P : α → Prop} {a : α} {r : R α}
@[simp] theorem wp_ok : wp (.ok a) P ↔ P a := ⟨fun ⟨_, e, h⟩ => by cases e; exact h, fun h => ⟨a, rfl, h⟩⟩
theorem wp_bind {f : α → R β} {Q : β → Prop} : wp (r.bind f) Q ↔ wp r fun a => wp (f a) Q := by
  cases r with
  | ok a => exact ⟨fun h => ⟨a, rfl, h⟩, fun ⟨_, e, h⟩ => by cases e; exact h⟩
  | exc c => exact ⟨fun ⟨_, e, _⟩ => (nomatch e), fun ⟨_, e, _⟩ => (nomatch e)⟩
  | bad => exact ⟨fun ⟨_, e, _⟩ => (nomatch e), fun ⟨_, e, _⟩ => (nomatch e)⟩
theorem wp_mono {P' : α → Prop} (h : wp r P) (hp : ∀ a, P a → P' a) : wp r P' := by obtain ⟨a, e, h⟩ := h; exact ⟨a, e, hp a h⟩
theorem wp_eq (h : r = .ok a) (hp : P a) : wp r P := ⟨a, h, hp⟩
theorem ok_of {b : α} (h : wp r fun x => x = b) : r = .ok b := by obtain ⟨a, e, rfl⟩ := h; exact e
end
theorem wp_goL {bnd : PyData → Rho → R Rho} {body : Rho → R (Fl × Rho)} {P : Fl × Rho → Prop} (I : List PyData → Rho → Prop)
    (step : ∀ x xs ρ, I (x :: xs) ρ → wp (bnd x ρ) fun ρ1 => wp (body ρ1) fun p => match p.1 with | .next => I xs p.2 | .ret d => P (.ret d, p.2)) (fin : ∀ ρ, I [] ρ → P (.next, ρ)) :
    ∀ {xs : List PyData} {ρ : Rho}, I xs ρ → wp (goL bnd body xs ρ) P
  | [], ρ, h => wp_ok.mpr (fin ρ h)
  | x :: xs, ρ, h => by
    unfold goL
    refine wp_bind.mpr (wp_mono (step x xs ρ h) fun ρ1 h1 => wp_bind.mpr (wp_mono h1 fun p h2 => ?_))
    obtain ⟨f, ρ2⟩ := p
    cases f with
    | next => exact wp_goL I step fin h2
    | ret d => exact wp_ok.mpr h2
/-- the same over mapped items -/
theorem wp_goM {α : Type} {g : α → PyData} {bnd : PyData → Rho → R Rho} {body : Rho → R (Fl × Rho)} {P : Fl × Rho → Prop} (I : List α → Rho → Prop)
    (step : ∀ x xs ρ, I (x :: xs) ρ → wp (bnd (g x) ρ) fun ρ1 => wp (body ρ1) fun p => match p.1 with | .next => I xs p.2 | .ret d => P (.ret d, p.2)) (fin : ∀ ρ, I [] ρ → P (.next, ρ)) :
    ∀ {xs : List α} {ρ : Rho}, I xs ρ → wp (goL bnd body (xs.map g) ρ) P
  | [], ρ, h => wp_ok.mpr (fin ρ h)
  | x :: xs, ρ, h => by
    rw [List.map_cons]
    unfold goL
    refine wp_bind.mpr (wp_mono (step x xs ρ h) fun ρ1 h1 => wp_bind.mpr (wp_mono h1 fun p h2 => ?_))
    obtain ⟨f, ρ2⟩ := p
    cases f with
    | next => exact wp_goM I step fin h2
    | ret d => exact wp_ok.mpr h2
theorem wp_seq {r : RS} {C : Fo.Ctx} {s : Sx} {P : Fl × Rho → Prop} (h : wp r fun p => match p.1 with | .next => wp (evS C s p.2) P | .ret d => P (.ret d, p.2)) : wp (kSeq r C s) P := by
  obtain ⟨⟨f, ρ⟩, rfl, h⟩ := h
  cases f with
  | next => exact h
  | ret d => exact ⟨_, rfl, h⟩
theorem wp_set {r : RE} {t : Tg} {P : Fl × Rho → Prop} (h : wp r fun p => wp (kNext (bindT t p.1 p.2)) P) : wp (kSet r t) P := by
  obtain ⟨⟨f, ρ⟩, rfl, h⟩ := h
  exact h
theorem rangeD_eq (lo : Int) (n : Nat) : rangeD lo n = (List.range n).map fun (i : Nat) => (PyData.int (lo + (i : Int))) := (rfl)
/-- a walk over numbers: what stands ahead of the turn i -/
theorem wp_goR {lo : Int} {bnd : PyData → Rho → R Rho} {body : Rho → R (Fl × Rho)} {P : Fl × Rho → Prop} {n : Nat} (I : Nat → Rho → Prop)
    (step : ∀ i ρ, i < n → I i ρ → wp (bnd (.int (lo + (i : Nat))) ρ) fun ρ1 => wp (body ρ1) fun p => match p.1 with | .next => I (i + 1) p.2 | .ret d => P (.ret d, p.2)) (fin : ∀ ρ, I n ρ → P (.next, ρ))
    {ρ : Rho} (h : I 0 ρ) : wp (goL bnd body (rangeD lo n) ρ) P := by
  rw [rangeD_eq]
  refine wp_goM (fun xs ρ => ∃ i, i ≤ n ∧ xs = (List.range n).drop i ∧ I i ρ) ?_ ?_ ⟨0, by omega, by simp, h⟩
  · rintro x xs ρ ⟨i, hi, e, h⟩
    have hl : i < n := by
      by_cases z : i < n
      · exact z
      · rw [List.drop_eq_nil_of_le (by simp; omega)] at e; cases e
    rw [List.drop_eq_getElem_cons (by simpa using hl)] at e
    simp only [List.getElem_range, List.cons.injEq] at e
    obtain ⟨rfl, rfl⟩ := e
    refine wp_mono (step x ρ hl h) fun ρ1 h1 => wp_mono h1 fun p h2 => ?_
    obtain ⟨f, ρ2⟩ := p
    cases f with
    | next => exact ⟨x + 1, by omega, rfl, h2⟩
    | ret d => exact h2
  · rintro ρ ⟨i, hi, e, h⟩
    have : i = n := by
      have := congrArg List.length e
      simp at this
      omega
    subst this
    exact fin ρ h
def kFin (io own : Bool) (r : RS) : R (PyData × List PyData) := r.bind fun p => (if io = true then ownAt p.2 0 else .ok []).bind fun zs =>
    match p.1 with
    | .next => if own = true then .bad else .ok (.none, zs)
    | .ret d => if own = true ∧ isLst d = false then .bad else .ok (d, zs)
theorem callQ {n f : Nat} {ds : List PyData} {F : Df} (h : Q.defs f = some F) (hl : ds.length = F.np) : callF Q (n + 1) f ds = kFin F.io F.own (evS (Q.ctx n) F.body (Fo.start F ds)) := by
  rw [callF_succ, h]
  exact if_pos hl
@[simp] theorem kFin_ret (d : PyData) (ρ : Rho) : kFin false false (.ok (.ret d, ρ)) = .ok (d, []) := (rfl)
@[simp] theorem kFin_next (ρ : Rho) : kFin false false (.ok (.next, ρ)) = .ok (.none, []) := (rfl)
@[simp] theorem kFin_own (xs : List PyData) (ρ : Rho) : kFin false true (.ok (.ret (.list xs), ρ)) = .ok (.list xs, []) := (rfl)
@[simp] theorem kFin_io (d : PyData) (zs : List PyData) (ρ : Rho) : kFin true false (.ok (.ret d, .own (.list zs) :: ρ)) = .ok (d, zs) := (rfl)
@[simp] theorem kFin_exc (io own : Bool) (c : Nat) : kFin io own (.exc c) = .exc c := (rfl)
theorem wp_fin {r : RS} {P : PyData × List PyData → Prop} (h : wp r fun p => ∃ d, p.1 = .ret d ∧ P (d, [])) : wp (kFin false false r) P := by
  obtain ⟨⟨f, ρ⟩, rfl, d, e, h⟩ := h
  dsimp only at e
  subst e
  exact ⟨_, rfl, h⟩
theorem wp_finO {r : RS} {P : PyData × List PyData → Prop} (h : wp r fun p => ∃ xs, p.1 = .ret (.list xs) ∧ P (.list xs, [])) : wp (kFin false true r) P := by
  obtain ⟨⟨f, ρ⟩, rfl, d, e, h⟩ := h
  dsimp only at e
  subst e
  exact ⟨_, rfl, h⟩
theorem wp_finI {r : RS} {P : PyData × List PyData → Prop} (h : wp r fun p => ∃ d zs ρ, p = (.ret d, .own (.list zs) :: ρ) ∧ P (d, zs)) : wp (kFin true false r) P := by
  obtain ⟨p, rfl, d, zs, ρ, rfl, h⟩ := h
  exact ⟨_, rfl, h⟩
@[simp] theorem ctx_call (P : Prog) (n f : Nat) (ds : List PyData) : (P.ctx n).call 0 f ds = callF P n f ds := (rfl)
@[simp] theorem ctx_glb (P : Prog) (n : Nat) : (P.ctx n).glb = P.glb := (rfl)
@[simp] theorem eqv_ss (a b : Str) : PyData.eqv (.str a) (.str b) = decide (a = b) := by
  unfold PyData.eqv
  cases h : a == b with
  | true => rw [eq_of_beq h]; simp
  | false => have := ne_of_beq_false h; simp [this]
@[simp] theorem eqv_ii (a b : Int) : PyData.eqv (.int a) (.int b) = decide (a = b) := by
  unfold PyData.eqv
  rfl
@[simp] theorem eqv_bb (a b : Bool) : PyData.eqv (.bool a) (.bool b) = (a == b) := by unfold PyData.eqv; rfl
@[simp] theorem nat_eq (a b : Nat) : ((a : Int) = (b : Int)) = (a = b) := by simp only [eq_iff_iff]; omega
@[simp] theorem nat_eq1 (a : Nat) : ((a : Int) = 1) = (a = 1) := by simp only [eq_iff_iff]; omega
@[simp] theorem okSS (a b : Str) : eqOk (.str a) (.str b) = true := by simp [eqOk, scalD]
@[simp] theorem okII (a b : Int) : eqOk (.int a) (.int b) = true := by simp [eqOk, scalD]
@[simp] theorem okBB (a b : Bool) : eqOk (.bool a) (.bool b) = true := by simp [eqOk, scalD, SeqAt.shaped, PyData.canLay0, PyData.depth]
@[simp] theorem ne_upright_level : (("upright" : Str) = "level") = False := by decide +kernel
@[simp] theorem ne_upright_up : (("upright" : Str) = "up") = False := by decide +kernel
@[simp] theorem ne_upright_down : (("upright" : Str) = "down") = False := by decide +kernel
@[simp] theorem ne_upright_middle : (("upright" : Str) = "middle") = False := by decide +kernel
@[simp] theorem ne_upright_third : (("upright" : Str) = "third") = False := by decide +kernel
@[simp] theorem ne_upright_through : (("upright" : Str) = "through") = False := by decide +kernel
@[simp] theorem ne_upright_mirror : (("upright" : Str) = "mirror") = False := by decide +kernel
@[simp] theorem ne_level_upright : (("level" : Str) = "upright") = False := by decide +kernel
@[simp] theorem ne_level_up : (("level" : Str) = "up") = False := by decide +kernel
@[simp] theorem ne_level_down : (("level" : Str) = "down") = False := by decide +kernel
@[simp] theorem ne_level_middle : (("level" : Str) = "middle") = False := by decide +kernel
@[simp] theorem ne_level_third : (("level" : Str) = "third") = False := by decide +kernel
@[simp] theorem ne_level_through : (("level" : Str) = "through") = False := by decide +kernel
@[simp] theorem ne_level_mirror : (("level" : Str) = "mirror") = False := by decide +kernel
@[simp] theorem ne_up_upright : (("up" : Str) = "upright") = False := by decide +kernel
@[simp] theorem ne_up_level : (("up" : Str) = "level") = False := by decide +kernel
@[simp] theorem ne_up_down : (("up" : Str) = "down") = False := by decide +kernel
@[simp] theorem ne_up_middle : (("up" : Str) = "middle") = False := by decide +kernel
@[simp] theorem ne_up_third : (("up" : Str) = "third") = False := by decide +kernel
@[simp] theorem ne_up_through : (("up" : Str) = "through") = False := by decide +kernel
@[simp] theorem ne_up_mirror : (("up" : Str) = "mirror") = False := by decide +kernel
@[simp] theorem ne_down_upright : (("down" : Str) = "upright") = False := by decide +kernel
@[simp] theorem ne_down_level : (("down" : Str) = "level") = False := by decide +kernel
@[simp] theorem ne_down_up : (("down" : Str) = "up") = False := by decide +kernel
@[simp] theorem ne_down_middle : (("down" : Str) = "middle") = False := by decide +kernel
@[simp] theorem ne_down_third : (("down" : Str) = "third") = False := by decide +kernel
@[simp] theorem ne_down_through : (("down" : Str) = "through") = False := by decide +kernel
@[simp] theorem ne_down_mirror : (("down" : Str) = "mirror") = False := by decide +kernel
@[simp] theorem ne_middle_upright : (("middle" : Str) = "upright") = False := by decide +kernel
@[simp] theorem ne_middle_level : (("middle" : Str) = "level") = False := by decide +kernel
@[simp] theorem ne_middle_up : (("middle" : Str) = "up") = False := by decide +kernel
@[simp] theorem ne_middle_down : (("middle" : Str) = "down") = False := by decide +kernel
@[simp] theorem ne_middle_third : (("middle" : Str) = "third") = False := by decide +kernel
@[simp] theorem ne_middle_through : (("middle" : Str) = "through") = False := by decide +kernel
@[simp] theorem ne_middle_mirror : (("middle" : Str) = "mirror") = False := by decide +kernel
@[simp] theorem ne_third_upright : (("third" : Str) = "upright") = False := by decide +kernel
@[simp] theorem ne_third_level : (("third" : Str) = "level") = False := by decide +kernel
@[simp] theorem ne_third_up : (("third" : Str) = "up") = False := by decide +kernel
@[simp] theorem ne_third_down : (("third" : Str) = "down") = False := by decide +kernel
@[simp] theorem ne_third_middle : (("third" : Str) = "middle") = False := by decide +kernel
@[simp] theorem ne_third_through : (("third" : Str) = "through") = False := by decide +kernel
@[simp] theorem ne_third_mirror : (("third" : Str) = "mirror") = False := by decide +kernel
@[simp] theorem ne_through_upright : (("through" : Str) = "upright") = False := by decide +kernel
@[simp] theorem ne_through_level : (("through" : Str) = "level") = False := by decide +kernel
@[simp] theorem ne_through_up : (("through" : Str) = "up") = False := by decide +kernel
@[simp] theorem ne_through_down : (("through" : Str) = "down") = False := by decide +kernel
@[simp] theorem ne_through_middle : (("through" : Str) = "middle") = False := by decide +kernel
@[simp] theorem ne_through_third : (("through" : Str) = "third") = False := by decide +kernel
@[simp] theorem ne_through_mirror : (("through" : Str) = "mirror") = False := by decide +kernel
@[simp] theorem ne_mirror_upright : (("mirror" : Str) = "upright") = False := by decide +kernel
@[simp] theorem ne_mirror_level : (("mirror" : Str) = "level") = False := by decide +kernel
@[simp] theorem ne_mirror_up : (("mirror" : Str) = "up") = False := by decide +kernel
@[simp] theorem ne_mirror_down : (("mirror" : Str) = "down") = False := by decide +kernel
@[simp] theorem ne_mirror_middle : (("mirror" : Str) = "middle") = False := by decide +kernel
@[simp] theorem ne_mirror_third : (("mirror" : Str) = "third") = False := by decide +kernel
@[simp] theorem ne_mirror_through : (("mirror" : Str) = "through") = False := by decide +kernel
@[simp] theorem so_upright : PyData.strOk ("upright" : Str) = true := by decide +kernel
@[simp] theorem so_level : PyData.strOk ("level" : Str) = true := by decide +kernel
@[simp] theorem so_up : PyData.strOk ("up" : Str) = true := by decide +kernel
@[simp] theorem so_down : PyData.strOk ("down" : Str) = true := by decide +kernel
@[simp] theorem so_middle : PyData.strOk ("middle" : Str) = true := by decide +kernel
@[simp] theorem so_third : PyData.strOk ("third" : Str) = true := by decide +kernel
@[simp] theorem so_through : PyData.strOk ("through" : Str) = true := by decide +kernel
@[simp] theorem so_mirror : PyData.strOk ("mirror" : Str) = true := by decide +kernel
end Lk

set_option Elab.async false
set_option linter.all false
set_option maxRecDepth 100000
set_option maxHeartbeats 4000000
/-! PB: kinds, steps, plans; the defs of plans.py. -/
namespace Lk
open PySem Fo
inductive Kd where
  | U | L | P | D
  deriving DecidableEq
@[simp] def Kd.s : Kd → Str
  | .U => "upright" | .L => "level" | .P => "up" | .D => "down"
def Kd.d (k : Kd) : PyData := .str k.s
inductive St where
  | mid (a b : Nat) | thd (a b : Nat) | thr (a b : Nat) (k : Kd) | mir (a b : Nat)
  deriving DecidableEq
def St.enc : St → PyData
  | .mid a b => .tuple [.str "middle", .int a, .int b]
  | .thd a b => .tuple [.str "third", .int a, .int b]
  | .thr a b k => .tuple [.str "through", .int a, .int b, k.d]
  | .mir a b => .tuple [.str "mirror", .int a, .int b]
def imgK : Kd → Kd → Kd
  | .U, .P => .L | .U, .D => .L | .L, .P => .U | .L, .D => .U
  | .P, .U => .D | .P, .L => .D | .D, .U => .P | .D, .L => .P
  | k, _ => k
def kat (ks : List Kd) (a : Nat) : Kd := ks.getD a .U
def St.kind (ks : List Kd) : St → Option Kd
  | .mid a b => if a < ks.length ∧ b < ks.length ∧ a ≠ b ∧ kat ks a = kat ks b then some (kat ks a) else none
  | .thd a b => if a < ks.length ∧ b < ks.length ∧ a ≠ b ∧ kat ks a = kat ks b then some (kat ks a) else none
  | .thr a b k => if a < ks.length ∧ b < ks.length ∧ a ≠ b ∧ kat ks a ≠ kat ks b then some k else none
  | .mir a b => if a < ks.length ∧ b < ks.length ∧ a ≠ b then some (imgK (kat ks a) (kat ks b)) else none
def kdOf (s : Str) : Option Kd := if s = "upright" then some .U else if s = "level" then some .L else if s = "up" then some .P else if s = "down" then some .D else none
def natOf (d : PyData) : Option Nat := match d with
  | .int i => if 0 ≤ i then some i.toNat else none
  | _ => none
def toSt (v : PyData) : Option St := match v with
  | .tuple [.str w, x, y] => (natOf x).bind fun a => (natOf y).bind fun b => if w = "middle" then some (.mid a b) else if w = "third" then some (.thd a b) else if w = "mirror" then some (.mir a b) else none
  | .tuple [.str w, x, y, .str k] => (natOf x).bind fun a => (natOf y).bind fun b => if w = "through" then (kdOf k).map (.thr a b) else none
  | _ => none
def stepK (ks : List Kd) (v : PyData) : Option Kd := (toSt v).bind (St.kind ks)
def kindsD : List Kd → List PyData → Option (List Kd)
  | ks, [] => some ks
  | ks, v :: r => (stepK ks v).bind fun k => kindsD (ks ++ [k]) r
def kindsP : List Kd → List St → Option (List Kd)
  | ks, [] => some ks
  | ks, s :: r => (s.kind ks).bind fun k => kindsP (ks ++ [k]) r
def E0 : List Kd := [.U, .L, .U, .L]
/-- data of none, bool, int, str, lists and tuples, so deep, so long -/
def PV : Nat → Nat → PyData → Prop
  | _, _, .none => True
  | _, _, .bool _ => True
  | _, _, .int _ => True
  | _, _, .str s => PyData.strOk s = true
  | 0, _, .list _ => False
  | 0, _, .tuple _ => False
  | n + 1, m, .list xs => xs.length ≤ m ∧ ∀ x ∈ xs, PV n m x
  | n + 1, m, .tuple xs => xs.length ≤ m ∧ ∀ x ∈ xs, PV n m x
  | _, _, .dict _ => False
def plainD : PyData → Bool
  | .none | .bool _ | .int _ | .str _ | .tuple _ | .list _ => true
  | _ => false
theorem PV.plain {n m : Nat} {d : PyData} (h : PV n m d) : plainD d = true := by cases d <;> first | rfl | (cases n <;> simp [PV] at h)
def isPlain : PyData → Bool
  | .int _ => true
  | _ => false
theorem r_is_plain (n : Nat) (d : PyData) (h : plainD d = true) : callF Q (n + 1) 0 [d] = .ok (.bool (isPlain d), []) := by
  cases d <;> first | rfl | cases h
def isWhole (d : PyData) (lo hi : Int) : Bool := match d with
  | .int i => decide (lo ≤ i) && decide (i ≤ hi)
  | _ => false
theorem r_is_whole (n : Nat) (d : PyData) (lo hi : Int) (h : plainD d = true) : callF Q (n + 2) 1 [d, .int lo, .int hi] = .ok (.bool (isWhole d lo hi), []) := by
  rw [callQ (F := F1) rfl rfl]
  have hp := r_is_plain n d h
  cases d with
  | int i =>
    by_cases h1 : lo ≤ i <;> simp [F1, Fo.start, ownAt_eq, bindT_name, parS_cons, ownS_list, ownS_dict, isLst, Tg.slots, wipeR, backR, occ, isOwn, pkI_var, evE_lc, hp, isPlain, isWhole, h1]
  | _ => first | (simp [F1, Fo.start, ownAt_eq, bindT_name, parS_cons, ownS_list, ownS_dict, isLst, Tg.slots, wipeR, backR, occ, isOwn, pkI_var, evE_lc, hp, isPlain, isWhole]; done) | cases h
theorem inOk2 (s : Str) (h : PyData.strOk s = true) (xs : List PyData) (hx : SeqAt.shaped (.list xs) = true) : inOk (.str s) xs = true := by
  unfold inOk
  rw [hx]
  simp [SeqAt.shaped, PyData.canLay0, h, PyData.depth]
theorem strOk_kd (k : Kd) : PyData.strOk k.s = true := by cases k <;> decide +kernel
theorem r_image (n : Nat) (a b : Kd) : callF Q (n + 1) 5 [a.d, b.d] = .ok ((imgK a b).d, []) := by
  rw [callQ (F := F5) rfl rfl]
  cases a <;> cases b <;> simp [F5, Fo.start, ownAt_eq, bindT_name, parS_cons, ownS_list, ownS_dict, isLst, Tg.slots, wipeR, backR, occ, isOwn, pkI_var, evE_lc, inOk, SeqAt.shaped, PyData.canLay0, PyData.canLayAll0, PyData.depth, PyData.depthAll, Kd.d, imgK]
theorem kat_get {ks : List Kd} {a : Nat} (h : a < ks.length) : ks[a]? = some (kat ks a) := by
  unfold kat
  rw [List.getD_eq_getElem?_getD, List.getElem?_eq_getElem h]
  rfl
theorem atI_kd {ks : List Kd} {a : Nat} (h : a < ks.length) : L2.atI (ks.map Kd.d) (a : Int) = some (kat ks a).d := by
  unfold L2.atI L2.ixN
  have : (0 : Int) ≤ a := Int.natCast_nonneg a
  have h2 : (a : Int) < ((ks.map Kd.d).length : Nat) := by rw [List.length_map]; omega
  rw [if_pos this, if_pos h2]
  simp [kat_get h]
theorem kd_inj {a b : Kd} : a.s = b.s ↔ a = b := by cases a <;> cases b <;> simp
theorem whole_nat {d : PyData} {m : Nat} : isWhole d 0 ((m : Int) - 1) = true ↔ ∃ a : Nat, d = .int a ∧ a < m := by
  constructor
  · intro h
    cases d <;> simp [isWhole] at h
    rename_i i
    exact ⟨i.toNat, by congr 1; omega, by omega⟩
  · rintro ⟨a, rfl, h⟩
    simp [isWhole]
    omega
theorem kdOf_in (s : Str) : ((s = "upright" ∨ s = "level" ∨ s = "up" ∨ s = "down") ↔ (kdOf s).isSome = true) := by
  unfold kdOf
  split <;> (try simp [*])
  split <;> (try simp [*])
  split <;> (try simp [*])
def optK : Option Kd → PyData
  | none => .none
  | some k => k.d
theorem kdOf_s {s : Str} {k : Kd} (h : kdOf s = some k) : PyData.str s = k.d := by
  unfold kdOf at h
  split at h
  · rename_i e; cases h; rw [e]; rfl
  split at h
  · rename_i e; cases h; rw [e]; rfl
  split at h
  · rename_i e; cases h; rw [e]; rfl
  split at h
  · rename_i e; cases h; rw [e]; rfl
  cases h
theorem kdOf_kd (k : Kd) : kdOf k.s = some k := by cases k <;> simp [kdOf]
theorem toSt_enc (s : St) : toSt s.enc = some s := by
  cases s with
  | thr a b k =>
    have := kdOf_kd k
    unfold St.enc Kd.d toSt
    simp only [natOf, Int.natCast_nonneg, if_true, Option.bind_some, Int.toNat_natCast, this, Option.map_some]
  | _ => simp [toSt, St.enc, natOf]
theorem kindsD_enc : ∀ (sts : List St) (ks : List Kd), kindsD ks (sts.map St.enc) = kindsP ks sts
  | [], ks => rfl
  | s :: r, ks => by
    rw [List.map_cons]
    unfold kindsD kindsP stepK
    rw [toSt_enc]
    simp only [Option.bind_some]
    congr 1
    funext k
    exact kindsD_enc r _
end Lk

set_option Elab.async false
set_option linter.all false
set_option maxRecDepth 100000
set_option maxHeartbeats 2000000
/-! PC: next_kind. -/
namespace Lk
open PySem Fo
theorem stepK_whole {ks : List Kd} {w : Str} {x y : PyData} {r : List PyData} {k : Kd} (h : stepK ks (.tuple (.str w :: x :: y :: r)) = some k) : isWhole x 0 ((ks.length : Int) - 1) = true ∧ isWhole y 0 ((ks.length : Int) - 1) = true ∧ x ≠ y := by
  unfold stepK at h
  have key : ∀ st, toSt (.tuple (.str w :: x :: y :: r)) = some st → ∃ a b : Nat, x = .int a ∧ y = .int b ∧ (st = .mid a b ∨ st = .thd a b ∨ st = .mir a b ∨ ∃ k, st = .thr a b k) := by
    intro st hs
    have nat : ∀ {d : PyData} {a : Nat}, natOf d = some a → d = .int a := by
      intro d a hd
      cases d <;> simp [natOf] at hd
      obtain ⟨h1, rfl⟩ := hd
      congr 1
      omega
    match r, hs with
    | [], hs =>
      unfold toSt at hs
      cases hx : natOf x with
      | none => simp [hx] at hs
      | some a =>
        cases hy : natOf y with
        | none => simp [hx, hy] at hs
        | some b =>
          simp only [hx, hy, Option.bind_some] at hs
          refine ⟨a, b, nat hx, nat hy, ?_⟩
          split at hs
          · cases hs; exact .inl rfl
          split at hs
          · cases hs; exact .inr (.inl rfl)
          split at hs
          · cases hs; exact .inr (.inr (.inl rfl))
          cases hs
    | [.str k], hs =>
      unfold toSt at hs
      cases hx : natOf x with
      | none => simp [hx] at hs
      | some a =>
        cases hy : natOf y with
        | none => simp [hx, hy] at hs
        | some b =>
          simp only [hx, hy, Option.bind_some] at hs
          refine ⟨a, b, nat hx, nat hy, ?_⟩
          split at hs
          · cases hk : kdOf k with
            | none => simp [hk] at hs
            | some q => simp [hk] at hs; exact .inr (.inr (.inr ⟨q, hs.symm⟩))
          cases hs
  cases e : toSt (.tuple (.str w :: x :: y :: r)) with
  | none => rw [e] at h; cases h
  | some st =>
    obtain ⟨a, b, rfl, rfl, hst⟩ := key st e
    rw [e] at h
    have hab : a < ks.length ∧ b < ks.length ∧ a ≠ b := by
      rcases hst with rfl | rfl | rfl | ⟨q, rfl⟩
      all_goals
        simp only [Option.bind_some, St.kind] at h
        split at h
        · rename_i c; exact ⟨c.1, c.2.1, by have := c.2.2; first | exact this.1 | exact this⟩
        · cases h
    refine ⟨whole_nat.mpr ⟨a, rfl, hab.1⟩, whole_nat.mpr ⟨b, rfl, hab.2.1⟩, fun z => ?_⟩
    injection z with z
    exact hab.2.2 (by omega)
theorem stepK_none {ks : List Kd} {w : Str} {x y : PyData} {r : List PyData} (h : ¬ (isWhole x 0 ((ks.length : Int) - 1) = true ∧ isWhole y 0 ((ks.length : Int) - 1) = true ∧ x ≠ y)) : stepK ks (.tuple (.str w :: x :: y :: r)) = none := by
  cases e : stepK ks (.tuple (.str w :: x :: y :: r)) with
  | none => rfl
  | some k => exact absurd (stepK_whole e) h
theorem stepK_3 {ks : List Kd} {w : Str} {a b : Nat} (ha : a < ks.length) (hb : b < ks.length) (ab : a ≠ b) : stepK ks (.tuple [.str w, .int a, .int b]) =
    if w = "middle" ∨ w = "third" then (if kat ks a = kat ks b then some (kat ks a) else none) else if w = "mirror" then some (imgK (kat ks a) (kat ks b)) else none := by
  unfold stepK toSt
  simp only [natOf, Int.natCast_nonneg, if_true, Option.bind_some, Int.toNat_natCast]
  by_cases h1 : w = "middle"
  · subst h1; simp [St.kind, ha, hb, ab]
  by_cases h2 : w = "third"
  · subst h2; simp [St.kind, ha, hb, ab]
  by_cases h3 : w = "mirror"
  · subst h3; simp [St.kind, ha, hb, ab]
  simp [h1, h2, h3]
theorem stepK_4 {ks : List Kd} {w s : Str} {a b : Nat} (ha : a < ks.length) (hb : b < ks.length) (ab : a ≠ b) : stepK ks (.tuple [.str w, .int a, .int b, .str s]) =
    if w = "through" ∧ kat ks a ≠ kat ks b then kdOf s else none := by
  unfold stepK toSt
  simp only [natOf, Int.natCast_nonneg, if_true, Option.bind_some, Int.toNat_natCast]
  by_cases h1 : w = "through"
  · subst h1
    cases hk : kdOf s <;> simp [St.kind, ha, hb, ab]
  simp [h1]
theorem stepK_4n {ks : List Kd} {w : Str} {x y z : PyData} (h : ∀ s, z ≠ .str s) : stepK ks (.tuple [.str w, x, y, z]) = none := by
  unfold stepK
  cases z <;> first | rfl | exact absurd rfl (h _)
theorem stepK_len {ks : List Kd} {xs : List PyData} (h : ¬ (3 ≤ xs.length ∧ xs.length ≤ 4)) : stepK ks (.tuple xs) = none := by
  unfold stepK
  match xs, h with
  | [], _ => rfl
  | [_], _ => simp [toSt]
  | [_, _], _ => simp [toSt]
  | [_, _, _], h => simp at h
  | [_, _, _, _], h => simp at h
  | a :: b :: c :: d :: e :: r, _ =>
    simp [toSt]
theorem stepK_w {ks : List Kd} {x : PyData} {r : List PyData} (h : ∀ s, x ≠ .str s) : stepK ks (.tuple (x :: r)) = none := by
  unfold stepK
  have : toSt (.tuple (x :: r)) = none := by
    unfold toSt
    split
    · rename_i e; cases e; exact absurd rfl (h _)
    · rename_i e; cases e; exact absurd rfl (h _)
    · rfl
  rw [this]
  rfl
theorem stepK_t {ks : List Kd} {v : PyData} (h : ∀ xs, v ≠ .tuple xs) : stepK ks v = none := by
  unfold stepK
  cases v <;> first | rfl | exact absurd rfl (h _)
theorem pv_items {N M : Nat} {xs : List PyData} (h : PV N M (.tuple xs)) : ∀ x ∈ xs, ∃ N, PV N M x := by
  cases N with
  | zero => exact h.elim
  | succ N => exact fun x hx => ⟨N, h.2 x hx⟩
theorem plain_items {N M : Nat} {xs : List PyData} (h : PV N M (.tuple xs)) : ∀ x ∈ xs, plainD x = true := fun x hx => (pv_items h x hx).elim fun _ h => h.plain
theorem isStr_cases (x : PyData) : (∃ s, x = .str s) ∨ ∀ s, x ≠ .str s := by cases x <;> first | exact .inl ⟨_, rfl⟩ | exact .inr fun s e => (nomatch e)
theorem isD_str {x : PyData} (h : plainD x = true) (n : ∀ s, x ≠ .str s) : isD x .str = some (.bool false) := by cases x <;> first | rfl | exact absurd rfl (n _) | cases h
theorem isD_tuple {x : PyData} (h : plainD x = true) (n : ∀ s, x ≠ .tuple s) : isD x .tuple = some (.bool false) := by cases x <;> first | rfl | exact absurd rfl (n _) | cases h
theorem isTup_cases (x : PyData) : (∃ s, x = .tuple s) ∨ ∀ s, x ≠ .tuple s := by cases x <;> first | exact .inl ⟨_, rfl⟩ | exact .inr fun s e => (nomatch e)
theorem q0 : Q.glb 0 = some (.tuple [.str "upright", .str "level", .str "up", .str "down"]) := rfl
theorem wcase (w : Str) : w = "through" ∨ w = "middle" ∨ w = "third" ∨ w = "mirror" ∨ (w ≠ "through" ∧ w ≠ "middle" ∧ w ≠ "third" ∧ w ≠ "mirror" ∧ ("middle" : Str) ≠ w ∧ ("third" : Str) ≠ w) := by
  by_cases h1 : w = "through"
  · exact .inl h1
  by_cases h2 : w = "middle"
  · exact .inr (.inl h2)
  by_cases h3 : w = "third"
  · exact .inr (.inr (.inl h3))
  by_cases h4 : w = "mirror"
  · exact .inr (.inr (.inr (.inl h4)))
  · exact .inr (.inr (.inr (.inr ⟨h1, h2, h3, h4, fun e => h2 e.symm, fun e => h3 e.symm⟩)))
theorem kdOf_no {s : Str} (h : kdOf s = none) : ("upright" : Str) ≠ s ∧ ("level" : Str) ≠ s ∧ ("up" : Str) ≠ s ∧ ("down" : Str) ≠ s := by
  refine ⟨?_, ?_, ?_, ?_⟩ <;> (rintro rfl; simp [kdOf] at h)
theorem eqK (a b : Kd) : PyData.eqv a.d b.d = decide (a = b) := by cases a <;> cases b <;> simp [Kd.d]
theorem okK (a b : Kd) : eqOk a.d b.d = true := by unfold Kd.d; rw [okSS]
theorem sw (x y : PyData) (r : List PyData) : (x :: y :: r)[1]? = some y := rfl
theorem r_next (n N M : Nat) (ks : List Kd) (v : PyData) (h : PV N M v) : callF Q (n + 3) 6 [.tuple (ks.map Kd.d), v] = .ok (optK (stepK ks v), []) := by
  rw [callQ (F := F6) rfl rfl]
  rcases isTup_cases v with ⟨xs, rfl⟩ | ht
  · by_cases hl : 3 ≤ xs.length ∧ xs.length ≤ 4
    · have pl := plain_items h
      match xs, hl with
      | x0 :: x1 :: x2 :: r, hl =>
        rcases isStr_cases x0 with ⟨w, rfl⟩ | hw
        · have p1 : plainD x1 = true := pl _ (by simp)
          have p2 : plainD x2 = true := pl _ (by simp)
          have h1 := r_is_whole n x1 0 ((ks.length : Int) - 1) p1
          have h2 := r_is_whole n x2 0 ((ks.length : Int) - 1) p2
          by_cases hw : isWhole x1 0 ((ks.length : Int) - 1) = true ∧ isWhole x2 0 ((ks.length : Int) - 1) = true ∧ x1 ≠ x2
          · obtain ⟨w1, w2, ne⟩ := hw
            obtain ⟨a, rfl, ha⟩ := whole_nat.mp w1
            obtain ⟨b, rfl, hb⟩ := whole_nat.mp w2
            have ab : a ≠ b := fun z => ne (by rw [z])
            have hra := r_image (n + 1) (kat ks a) (kat ks b)
            match r, hl with
            | [], _ =>
              rw [stepK_3 ha hb ab]
              have so : PyData.strOk w = true := by obtain ⟨N, hN⟩ := pv_items h (.str w) (by simp); unfold PV at hN; exact hN
              rcases wcase w with rfl | rfl | rfl | rfl | ⟨e1, e2, e3, e4, e6, e7⟩
              · by_cases e5 : kat ks a = kat ks b <;> simp [F6, Fo.start, ownAt_eq, bindT_name, parS_cons, ownS_list, ownS_dict, isLst, Tg.slots, wipeR, backR, occ, isOwn, pkI_var, evE_lc, inOk, SeqAt.shaped, PyData.canLay0, PyData.canLayAll0, PyData.depth, PyData.depthAll, h1, h2, w1, w2, kat_get ha, kat_get hb, ab, e5, okK, optK, eqK, q0]
              · by_cases e5 : kat ks a = kat ks b <;> simp [F6, Fo.start, ownAt_eq, bindT_name, parS_cons, ownS_list, ownS_dict, isLst, Tg.slots, wipeR, backR, occ, isOwn, pkI_var, evE_lc, inOk, SeqAt.shaped, PyData.canLay0, PyData.canLayAll0, PyData.depth, PyData.depthAll, h1, h2, w1, w2, kat_get ha, kat_get hb, ab, e5, okK, optK, eqK, q0]
              · by_cases e5 : kat ks a = kat ks b <;> simp [F6, Fo.start, ownAt_eq, bindT_name, parS_cons, ownS_list, ownS_dict, isLst, Tg.slots, wipeR, backR, occ, isOwn, pkI_var, evE_lc, inOk, SeqAt.shaped, PyData.canLay0, PyData.canLayAll0, PyData.depth, PyData.depthAll, h1, h2, w1, w2, kat_get ha, kat_get hb, ab, e5, okK, optK, eqK, q0]
              · simp [F6, Fo.start, ownAt_eq, bindT_name, parS_cons, ownS_list, ownS_dict, isLst, Tg.slots, wipeR, backR, occ, isOwn, pkI_var, evE_lc, inOk, SeqAt.shaped, PyData.canLay0, PyData.canLayAll0, PyData.depth, PyData.depthAll, h1, h2, w1, w2, kat_get ha, kat_get hb, ab, okK, optK, eqK, q0, hra]
              · simp [F6, Fo.start, ownAt_eq, bindT_name, parS_cons, ownS_list, ownS_dict, isLst, Tg.slots, wipeR, backR, occ, isOwn, pkI_var, evE_lc, inOk, SeqAt.shaped, PyData.canLay0, PyData.canLayAll0, PyData.depth, PyData.depthAll, h1, h2, w1, w2, kat_get ha, kat_get hb, ab, okK, optK, eqK, q0, hra, so, e1, e2, e3, e4, e6, e7]
            | [x3], _ =>
              have p3 : plainD x3 = true := pl _ (by simp)
              rcases isStr_cases x3 with ⟨s, rfl⟩ | hs
              · rw [stepK_4 ha hb ab]
                have ss : PyData.strOk s = true := by obtain ⟨N, hN⟩ := pv_items h (.str s) (by simp); unfold PV at hN; exact hN
                cases hk : kdOf s with
                | none =>
                  obtain ⟨k1, k2, k3, k4⟩ := kdOf_no hk
                  by_cases e1 : w = "through" <;> by_cases e5 : kat ks a = kat ks b <;>
                    simp [F6, Fo.start, ownAt_eq, bindT_name, parS_cons, ownS_list, ownS_dict, isLst, Tg.slots, wipeR, backR, occ, isOwn, pkI_var, evE_lc, inOk, SeqAt.shaped, PyData.canLay0, PyData.canLayAll0, PyData.depth, PyData.depthAll, h1, h2, w1, w2, kat_get ha, kat_get hb, ab, e1, e5, okK, eqK, optK, hra, q0, ss, sw, k1, k2, k3, k4]
                | some q =>
                  have e := kdOf_s hk
                  simp only [Kd.d, PyData.str.injEq] at e
                  subst e
                  by_cases e1 : w = "through" <;> by_cases e5 : kat ks a = kat ks b <;> cases q <;>
                    simp [F6, Fo.start, ownAt_eq, bindT_name, parS_cons, ownS_list, ownS_dict, isLst, Tg.slots, wipeR, backR, occ, isOwn, pkI_var, evE_lc, inOk, SeqAt.shaped, PyData.canLay0, PyData.canLayAll0, PyData.depth, PyData.depthAll, h1, h2, w1, w2, kat_get ha, kat_get hb, ab, e1, e5, okK, eqK, optK, hra, q0, ss, sw] <;> rfl
              · rw [stepK_4n hs]
                by_cases e1 : w = "through" <;> by_cases e5 : kat ks a = kat ks b <;>
                  simp [F6, Fo.start, ownAt_eq, bindT_name, parS_cons, ownS_list, ownS_dict, isLst, Tg.slots, wipeR, backR, occ, isOwn, pkI_var, evE_lc, inOk, SeqAt.shaped, PyData.canLay0, PyData.canLayAll0, PyData.depth, PyData.depthAll, h1, h2, w1, w2, kat_get ha, kat_get hb, ab, e1, e5, okK, eqK, optK, hra, q0, isD_str p3 hs, sw]
          · rw [stepK_none hw]
            have l4 : (r.length : Int) + 1 + 1 + 1 ≤ 4 := by have := hl.2; simp only [List.length_cons] at this; omega
            have l3 : 3 ≤ (r.length : Int) + 1 + 1 + 1 := by omega
            by_cases w1 : isWhole x1 0 ((ks.length : Int) - 1) = true
            · by_cases w2 : isWhole x2 0 ((ks.length : Int) - 1) = true
              · have e : x1 = x2 := Classical.byContradiction fun z => hw ⟨w1, w2, z⟩
                subst e
                obtain ⟨a, rfl, ha⟩ := whole_nat.mp w1
                simp [F6, Fo.start, ownAt_eq, bindT_name, parS_cons, ownS_list, ownS_dict, isLst, Tg.slots, wipeR, backR, occ, isOwn, pkI_var, evE_lc, inOk, SeqAt.shaped, PyData.canLay0, PyData.canLayAll0, PyData.depth, PyData.depthAll, h1, w1, optK, l3, l4]
              · simp [F6, Fo.start, ownAt_eq, bindT_name, parS_cons, ownS_list, ownS_dict, isLst, Tg.slots, wipeR, backR, occ, isOwn, pkI_var, evE_lc, inOk, SeqAt.shaped, PyData.canLay0, PyData.canLayAll0, PyData.depth, PyData.depthAll, h1, h2, w1, w2, optK, l3, l4]
            · simp [F6, Fo.start, ownAt_eq, bindT_name, parS_cons, ownS_list, ownS_dict, isLst, Tg.slots, wipeR, backR, occ, isOwn, pkI_var, evE_lc, inOk, SeqAt.shaped, PyData.canLay0, PyData.canLayAll0, PyData.depth, PyData.depthAll, h1, w1, optK, l3, l4]
        · rw [stepK_w hw]
          have p0 : plainD x0 = true := pl _ (by simp)
          have l4 : (r.length : Int) + 1 + 1 + 1 ≤ 4 := by have := hl.2; simp only [List.length_cons] at this; omega
          have l3 : 3 ≤ (r.length : Int) + 1 + 1 + 1 := by omega
          simp [F6, Fo.start, ownAt_eq, bindT_name, parS_cons, ownS_list, ownS_dict, isLst, Tg.slots, wipeR, backR, occ, isOwn, pkI_var, evE_lc, inOk, SeqAt.shaped, PyData.canLay0, PyData.canLayAll0, PyData.depth, PyData.depthAll, isD_str p0 hw, optK, l3, l4]
    · rw [stepK_len hl]
      by_cases l3 : 3 ≤ (xs.length : Int)
      · have l4 : ¬ (xs.length : Int) ≤ 4 := by omega
        simp [F6, Fo.start, ownAt_eq, bindT_name, parS_cons, ownS_list, ownS_dict, isLst, Tg.slots, wipeR, backR, occ, isOwn, pkI_var, evE_lc, inOk, SeqAt.shaped, PyData.canLay0, PyData.canLayAll0, PyData.depth, PyData.depthAll, optK, l3, l4]
      · simp [F6, Fo.start, ownAt_eq, bindT_name, parS_cons, ownS_list, ownS_dict, isLst, Tg.slots, wipeR, backR, occ, isOwn, pkI_var, evE_lc, inOk, SeqAt.shaped, PyData.canLay0, PyData.canLayAll0, PyData.depth, PyData.depthAll, optK, l3]
  · rw [stepK_t ht]
    simp [F6, Fo.start, ownAt_eq, bindT_name, parS_cons, ownS_list, ownS_dict, isLst, Tg.slots, wipeR, backR, occ, isOwn, pkI_var, evE_lc, isD_tuple h.plain ht, optK]
end Lk

set_option Elab.async false
set_option linter.all false
set_option maxRecDepth 100000
set_option maxHeartbeats 2000000
/-! PD: kinds_of and what rests on it. -/
namespace Lk
open PySem Fo
def planK : PyData → Option (List Kd)
  | .tuple xs => if xs.length ≤ 6 then kindsD E0 xs else none
  | _ => none
theorem kindsD_cons (ks : List Kd) (v : PyData) (r : List PyData) : kindsD ks (v :: r) = (stepK ks v).bind fun k => kindsD (ks ++ [k]) r := rfl
theorem kindsP_cons (ks : List Kd) (s : St) (r : List St) : kindsP ks (s :: r) = (s.kind ks).bind fun k => kindsP (ks ++ [k]) r := rfl
def optKs : Option (List Kd) → PyData
  | none => .none
  | some ks => .tuple (ks.map Kd.d)
theorem q1 : Q.glb 1 = some (.tuple (E0.map Kd.d)) := rfl
theorem q2 : Q.glb 2 = some (.int 6) := rfl
theorem r_kinds (n N M : Nat) (v : PyData) (h : PV N M v) : callF Q (n + 4) 7 [v] = .ok (optKs (planK v), []) := by
  rcases isTup_cases v with ⟨xs, rfl⟩ | ht
  · by_cases hl : xs.length ≤ 6
    · have hl' : ¬ (6 : Int) < (xs.length : Nat) := by omega
      have e : planK (.tuple xs) = kindsD E0 xs := if_pos hl
      rw [e]
      refine ok_of ?_
      rw [callQ (F := F7) rfl rfl]
      refine wp_fin ?_
      simp [F7, Fo.start, ownAt_eq, bindT_name, parS_cons, ownS_list, ownS_dict, isLst, Tg.slots, wipeR, backR, occ, isOwn, pkI_var, evE_lc, q1, q2, hl']
      refine wp_seq (wp_goL (fun ys ρ => ∃ ks a b, ρ = [.val (.tuple xs), .val (.tuple (ks.map Kd.d)), a, b] ∧ kindsD E0 xs = kindsD ks ys ∧ ks.length + ys.length ≤ 10 ∧ ∀ x ∈ ys, ∃ N, PV N M x) ?_ ?_ ?_)
      · rintro x ys _ ⟨ks, a, b, rfl, e, hk, hx⟩
        obtain ⟨N1, hN⟩ := hx x (by simp)
        have hs := r_next n N1 M ks x hN
        simp at hk
        have l1 : ks.length + 1 ≤ 16777216 := by omega
        cases hst : stepK ks x with
        | none =>
          simp [Fo.start, ownAt_eq, bindT_name, parS_cons, ownS_list, ownS_dict, isLst, Tg.slots, wipeR, backR, occ, isOwn, pkI_var, evE_lc, hs, hst, optK]
          rw [e, kindsD_cons, hst]; rfl
        | some k =>
          simp [Fo.start, ownAt_eq, bindT_name, parS_cons, ownS_list, ownS_dict, isLst, Tg.slots, wipeR, backR, occ, isOwn, pkI_var, evE_lc, hs, hst, optK, Kd.d, l1]
          refine ⟨ks ++ [k], by simp [Kd.d], ?_, by simp; omega, fun x hx' => hx x (by simp [hx'])⟩
          rw [e, kindsD_cons, hst]; rfl
      · rintro _ ⟨ks, a, b, rfl, e, hk, hx⟩
        simp [Fo.start, ownAt_eq, bindT_name, parS_cons, ownS_list, ownS_dict, isLst, Tg.slots, wipeR, backR, occ, isOwn, pkI_var, evE_lc]
        rw [e]; rfl
      · exact ⟨E0, _, _, rfl, rfl, by simp [E0]; omega, pv_items h⟩
    · have hl' : (6 : Int) < (xs.length : Nat) := by omega
      have e : planK (.tuple xs) = none := if_neg hl
      rw [e, callQ (F := F7) rfl rfl]
      simp [F7, Fo.start, ownAt_eq, bindT_name, parS_cons, ownS_list, ownS_dict, isLst, Tg.slots, wipeR, backR, occ, isOwn, pkI_var, evE_lc, q2, hl', optKs]
  · have e : planK v = none := by cases v <;> first | rfl | exact absurd rfl (ht _)
    rw [e, callQ (F := F7) rfl rfl]
    simp [F7, Fo.start, ownAt_eq, bindT_name, parS_cons, ownS_list, ownS_dict, isLst, Tg.slots, wipeR, backR, occ, isOwn, pkI_var, evE_lc, isD_tuple h.plain ht, optKs]
theorem r_is_plan (n N M : Nat) (v : PyData) (h : PV N M v) : callF Q (n + 5) 8 [v] = .ok (.bool (planK v).isSome, []) := by
  rw [callQ (F := F8) rfl rfl]
  have := r_kinds n N M v h
  cases e : planK v <;> simp [F8, Fo.start, ownAt_eq, bindT_name, parS_cons, ownS_list, ownS_dict, isLst, Tg.slots, wipeR, backR, occ, isOwn, pkI_var, evE_lc, this, e, optKs]
theorem r_need_plan (n N M : Nat) (v : PyData) (h : PV N M v) : callF Q (n + 6) 9 [v] = if (planK v).isSome = true then .ok (.none, []) else .exc 1 := by
  rw [callQ (F := F9) rfl rfl]
  have := r_is_plan n N M v h
  cases e : (planK v).isSome <;> simp [F9, Fo.start, ownAt_eq, bindT_name, parS_cons, ownS_list, ownS_dict, isLst, Tg.slots, wipeR, backR, occ, isOwn, pkI_var, evE_lc, this, e]
theorem findD_2 (a b c : Str) : findD [.str a, .str b] (.str c) = if a = c then some 0 else if b = c then some 1 else none := by
  by_cases h : a = c <;> by_cases h2 : b = c <;> simp [findD, h, h2]
theorem r_turned (n : Nat) (a b : Kd) : callF Q (n + 1) 17 [a.d, b.d] = .ok ((imgK a b).d, []) := by
  rw [callQ (F := F17) rfl rfl]
  cases a <;> cases b <;> simp [F17, Fo.start, ownAt_eq, bindT_name, parS_cons, ownS_list, ownS_dict, isLst, Tg.slots, wipeR, backR, occ, isOwn, pkI_var, evE_lc, inOk, SeqAt.shaped, PyData.canLay0, PyData.canLayAll0, PyData.depth, PyData.depthAll, Kd.d, imgK, mthD, strsOf, findD_2]
end Lk

set_option Elab.async false
set_option linter.all false
set_option maxRecDepth 100000
set_option maxHeartbeats 2000000
/-! PE: the law's own look at steps and plans. -/
namespace Lk
open PySem Fo
theorem eok {s : St} {ks : List Kd} {k : Kd} (h : s.kind ks = some k) : (∃ a b, (s = .mid a b ∨ s = .thd a b) ∧ a < ks.length ∧ b < ks.length ∧ kat ks a = kat ks b ∧ k = kat ks a) ∨
    (∃ a b, s = .thr a b k ∧ a < ks.length ∧ b < ks.length ∧ kat ks a ≠ kat ks b) ∨ ∃ a b, s = .mir a b ∧ a < ks.length ∧ b < ks.length ∧ k = imgK (kat ks a) (kat ks b) := by
  cases s <;> simp only [St.kind] at h <;> split at h <;> first | (cases h; done) | skip
  · rename_i a b c; cases h; exact .inl ⟨a, b, .inl rfl, c.1, c.2.1, c.2.2.2, rfl⟩
  · rename_i a b c; cases h; exact .inl ⟨a, b, .inr rfl, c.1, c.2.1, c.2.2.2, rfl⟩
  · rename_i a b k c; cases h; exact .inr (.inl ⟨a, b, rfl, c.1, c.2.1, c.2.2.2⟩)
  · rename_i a b c; cases h; exact .inr (.inr ⟨a, b, rfl, c.1, c.2.1, rfl⟩)
/-- the law's kinds of a plan's steps -/
theorem r_law_kinds (n : Nat) (sts : List St) (ks : List Kd) (h : kindsP E0 sts = some ks) (hl : sts.length ≤ 1000) : callF Q (n + 2) 19 [.tuple (sts.map St.enc)] = .ok (.list (ks.map Kd.d), []) := by
  refine ok_of ?_
  rw [callQ (F := F19) rfl rfl]
  refine wp_fin ?_
  simp [F19, Fo.start, ownAt_eq, bindT_name, parS_cons, ownS_list, ownS_dict, isLst, Tg.slots, wipeR, backR, occ, isOwn, pkI_var, evE_lc]
  refine wp_seq (wp_goM (fun (ys : List St) ρ => ∃ ks1 a, ρ = [.val (.tuple (sts.map St.enc)), .own (.list (ks1.map Kd.d)), a] ∧ kindsP ks1 ys = some ks ∧ ks1.length + ys.length ≤ 1004) ?_ ?_ ?_)
  · rintro s ys _ ⟨ks1, a, rfl, e, hk⟩
    simp at hk
    have l1 : ks1.length < 16777216 := by omega
    rw [kindsP_cons] at e
    cases hs : s.kind ks1 with
    | none => rw [hs] at e; cases e
    | some k =>
      rw [hs] at e
      have e' : kindsP (ks1 ++ [k]) ys = some ks := e
      rcases eok hs with ⟨x, y, hxy, ha, hb, ab, rfl⟩ | ⟨x, y, rfl, ha, hb, ab⟩ | ⟨x, y, rfl, ha, hb, rfl⟩
      · rcases hxy with rfl | rfl <;> simp [Fo.start, ownAt_eq, bindT_name, parS_cons, ownS_list, ownS_dict, isLst, Tg.slots, wipeR, backR, occ, isOwn, pkI_var, evE_lc, St.enc, kat_get ha, kat_get hb, kApp3_ok, l1] <;> exact ⟨ks1 ++ [kat ks1 x], by simp, e', by simp only [List.length_append, List.length_singleton]; omega⟩
      · simp [Fo.start, ownAt_eq, bindT_name, parS_cons, ownS_list, ownS_dict, isLst, Tg.slots, wipeR, backR, occ, isOwn, pkI_var, evE_lc, St.enc, kApp3_ok, l1]
        exact ⟨ks1 ++ [k], by simp, e', by simp only [List.length_append, List.length_singleton]; omega⟩
      · have := r_turned n (kat ks1 x) (kat ks1 y)
        simp [Fo.start, ownAt_eq, bindT_name, parS_cons, ownS_list, ownS_dict, isLst, Tg.slots, wipeR, backR, occ, isOwn, pkI_var, evE_lc, St.enc, kat_get ha, kat_get hb, kApp3_ok, l1, this]
        exact ⟨ks1 ++ [_], by simp, e', by simp only [List.length_append, List.length_singleton]; omega⟩
  · rintro _ ⟨ks1, a, rfl, e, hk⟩
    cases e
    simp [Fo.start, ownAt_eq, bindT_name, parS_cons, ownS_list, ownS_dict, isLst, Tg.slots, wipeR, backR, occ, isOwn, pkI_var, evE_lc]
  · exact ⟨E0, _, rfl, h, by simp [E0]; omega⟩
end Lk

set_option Elab.async false
set_option linter.all false
set_option maxRecDepth 100000
set_option maxHeartbeats 2000000
/-! PF: _law_good. -/
namespace Lk
open PySem Fo
theorem enc_toSt {v : PyData} {st : St} (h : toSt v = some st) : v = st.enc := by
  have nat : ∀ {d : PyData} {a : Nat}, natOf d = some a → d = .int a := by
    intro d a hd
    cases d <;> simp [natOf] at hd
    obtain ⟨h1, rfl⟩ := hd
    congr 1
    omega
  unfold toSt at h
  split at h
  · rename_i w x y
    cases hx : natOf x with
    | none => simp [hx] at h
    | some a =>
      cases hy : natOf y with
      | none => simp [hx, hy] at h
      | some b =>
        simp only [hx, hy, Option.bind_some] at h
        split at h
        · rename_i e; cases h; rw [nat hx, nat hy, e]; rfl
        split at h
        · rename_i e; cases h; rw [nat hx, nat hy, e]; rfl
        split at h
        · rename_i e; cases h; rw [nat hx, nat hy, e]; rfl
        cases h
  · rename_i w x y k
    cases hx : natOf x with
    | none => simp [hx] at h
    | some a =>
      cases hy : natOf y with
      | none => simp [hx, hy] at h
      | some b =>
        simp only [hx, hy, Option.bind_some] at h
        split at h
        · rename_i e
          cases hk : kdOf k with
          | none => simp [hk] at h
          | some q =>
            simp [hk] at h
            subst h
            rw [nat hx, nat hy, e, kdOf_s hk]; rfl
        cases h
  · cases h
theorem kindsD_some : ∀ {xs : List PyData} {ks0 ks : List Kd}, kindsD ks0 xs = some ks → ∃ sts, xs = sts.map St.enc ∧ kindsP ks0 sts = some ks
  | [], ks0, ks, h => ⟨[], rfl, h⟩
  | v :: r, ks0, ks, h => by
    rw [kindsD_cons] at h
    unfold stepK at h
    cases e : toSt v with
    | none => rw [e] at h; cases h
    | some st =>
      rw [e] at h
      cases e2 : st.kind ks0 with
      | none => simp [e2] at h
      | some k =>
        simp only [Option.bind_some, e2] at h
        obtain ⟨sts, rfl, h2⟩ := kindsD_some h
        exact ⟨st :: sts, by rw [enc_toSt e]; rfl, by rw [kindsP_cons, e2]; exact h2⟩
theorem kindsD_app : ∀ (xs ys : List PyData) (ks : List Kd), kindsD ks (xs ++ ys) = (kindsD ks xs).bind fun ks' => kindsD ks' ys
  | [], ys, ks => rfl
  | v :: r, ys, ks => by
    rw [List.cons_append, kindsD_cons, kindsD_cons, Option.bind_assoc]
    congr 1
    funext k
    exact kindsD_app r ys _
theorem kindsP_app : ∀ (xs ys : List St) (ks : List Kd), kindsP ks (xs ++ ys) = (kindsP ks xs).bind fun ks' => kindsP ks' ys
  | [], ys, ks => rfl
  | v :: r, ys, ks => by
    rw [List.cons_append, kindsP_cons, kindsP_cons, Option.bind_assoc]
    congr 1
    funext k
    exact kindsP_app r ys _
end Lk

set_option Elab.async false
set_option linter.all false
set_option maxRecDepth 100000
set_option maxHeartbeats 2000000
/-! PG: the bag. -/
namespace Lk
open PySem Fo
@[simp] theorem mulOk_lit (a : Nat) (j : Int) (h : (OfNat.ofNat a : Int) < 18446744073709551616) : mulOk (OfNat.ofNat a) j = true := mulOk_l (by have : (0 : Int) ≤ OfNat.ofNat a := Int.natCast_nonneg a; omega) h
theorem r_cell (n : Nat) (ns : List Int) (k : Nat) : ∃ c, callF Q (n + 1) 11 [.list (ns.map .int), .int k] = .ok (.int c, []) := by
  rw [callQ (F := F11) rfl rfl]
  have m1 : mulOk 7919 (k : Int) = true := mulOk_l (by decide) (by decide)
  by_cases h : k < ns.length
  · have h' : (k : Int) < (ns.length : Int) := by omega
    have e : (ns.map PyData.int)[k]? = some (.int ns[k]) := by simp [h]
    refine ⟨ns[k], ?_⟩
    simp [F11, Fo.start, ownAt_eq, bindT_name, parS_cons, ownS_list, ownS_dict, isLst, Tg.slots, wipeR, backR, occ, isOwn, pkI_var, evE_lc, h', e]
  · have h' : ¬ (k : Int) < (ns.length : Int) := by omega
    by_cases h0 : ns.length = 0
    · have : ns = [] := List.eq_nil_of_length_eq_zero h0
      subst this
      have h2 : ¬ (k : Int) < 0 := by omega
      exact ⟨7919 * k + 101, by simp [F11, Fo.start, ownAt_eq, bindT_name, parS_cons, ownS_list, ownS_dict, isLst, Tg.slots, wipeR, backR, occ, isOwn, pkI_var, evE_lc, m1, h2]⟩
    · have h1 : ¬ (ns.length : Int) = 0 := by omega
      have h3 : (0 : Int) ≤ (k : Int).fmod ns.length := Int.fmod_nonneg_of_pos _ (by omega)
      have h4 : (k : Int).fmod ns.length < ns.length := Int.fmod_lt_of_pos _ (by omega)
      have e : ns[((k : Int).fmod ns.length).toNat]? = some (ns[((k : Int).fmod ns.length).toNat]'(by omega)) := List.getElem?_eq_getElem _
      exact ⟨(ns[((k : Int).fmod ns.length).toNat]'(by omega)).fmod 1000003 + 7919 * k, by simp [F11, Fo.start, ownAt_eq, bindT_name, parS_cons, ownS_list, ownS_dict, isLst, Tg.slots, wipeR, backR, occ, isOwn, pkI_var, evE_lc, m1, h', h1, h3, e, h0]⟩
theorem primes_at (i : Int) : ∃ p : Int, L2.atI [PyData.int 2147483647, .int 2147483629, .int 2147483587, .int 2147483579, .int 2147483563, .int 2147483549, .int 2147483543, .int 2147483497] (i.fmod 8) = some (.int p) ∧ 0 < p ∧ p < 2147483648 := by
  have h1 : 0 ≤ i.fmod 8 := Int.fmod_nonneg_of_pos _ (by omega)
  have h2 : i.fmod 8 < 8 := Int.fmod_lt_of_pos _ (by omega)
  have : i.fmod 8 = 0 ∨ i.fmod 8 = 1 ∨ i.fmod 8 = 2 ∨ i.fmod 8 = 3 ∨ i.fmod 8 = 4 ∨ i.fmod 8 = 5 ∨ i.fmod 8 = 6 ∨ i.fmod 8 = 7 := by omega
  rcases this with e | e | e | e | e | e | e | e <;> rw [e] <;> exact ⟨_, rfl, by decide, by decide⟩
theorem app_int (ms : List Int) (x : Int) : ms.map PyData.int ++ [.int x] = (ms ++ [x]).map .int := by simp
theorem r_draws (n : Nat) (ns : List Int) (k : Nat) (hk : k < 1000) : ∃ ms : List Int, callF Q (n + 2) 12 [.list (ns.map .int), .int k, .int 150, .int 27720] = .ok (.list (ms.map .int), []) := by
  obtain ⟨c, hc⟩ := r_cell n ns k
  suffices h : wp (callF Q (n + 2) 12 [.list (ns.map .int), .int k, .int 150, .int 27720]) fun p => ∃ ms : List Int, p = (.list (ms.map .int), []) by
    obtain ⟨_, e, ms, rfl⟩ := h; exact ⟨ms, e⟩
  rw [callQ (F := F12) rfl rfl]
  refine wp_finO ?_
  have hr := kIt_r1 150 (by omega)
  by_cases hbig : (1000000000000000000 : Int) ≤ c
  all_goals
    simp [F12, Fo.start, ownAt_eq, bindT_name, parS_cons, ownS_list, ownS_dict, isLst, Tg.slots, wipeR, backR, occ, isOwn, pkI_var, evE_lc, hc, hbig, hr]
    refine wp_seq (wp_goR (fun i ρ => ∃ (r : Int) (ms : List Int) (s8 s9 : Sl), ρ = [.val (.list (ns.map .int)), .val (.int k), .val (.int 150), .val (.int 27720), .val (.tuple [PyData.int 2147483647, .int 2147483629, .int 2147483587, .int 2147483579, .int 2147483563, .int 2147483549, .int 2147483543, .int 2147483497]), .val (.int c), .val (.int r), .own (.list (ms.map .int)), s8, s9] ∧ ms.length = i) ?_ ?_ ?_)
    · rintro i _ hi ⟨r, ms, s8, s9, rfl, hl⟩
      simp only [Int.zero_add]
      simp [Fo.start, ownAt_eq, bindT_name, parS_cons, ownS_list, ownS_dict, isLst, Tg.slots, wipeR, backR, occ, isOwn, pkI_var, evE_lc]
      obtain ⟨p1, e1, l1, u1⟩ := primes_at (i : Int)
      obtain ⟨p2, e2, l2, u2⟩ := primes_at (3 * (i : Int) + k)
      obtain ⟨p3, e3, l3, u3⟩ := primes_at ((i : Int) + 5)
      have m0 : ∀ x, mulOk 2 x = true := fun x => mulOk_l (by decide) (by decide)
      have m1 : ∀ x, mulOk (2 * (i : Int)) x = true := fun x => mulOk_l (by omega) (by omega)
      have m2 : ∀ (x y : Int), mulOk (x.fmod p1) y = true := fun x y => by
        have := Int.fmod_nonneg_of_pos x l1
        have := Int.fmod_lt_of_pos x l1
        exact mulOk_l (by omega) (by omega)
      have m3 : ∀ x, mulOk 7919 x = true := fun x => mulOk_l (by decide) (by decide)
      have m4 : ∀ x, mulOk (7919 * ((i : Int) + 1)) x = true := fun x => mulOk_l (by omega) (by omega)
      have m5 : ∀ x, mulOk 104729 x = true := fun x => mulOk_l (by decide) (by decide)
      have m6 : ∀ x, mulOk 3 x = true := fun x => mulOk_l (by decide) (by decide)
      have m7 : ∀ (x y : Int), mulOk y (x.fmod p2) = true := fun x y => by
        have := Int.fmod_nonneg_of_pos x l2
        have := Int.fmod_lt_of_pos x l2
        exact mulOk_r (by omega) (by omega)
      have d1 : ∀ x, divOk x 27720 = true := fun x => divOk_s (by decide) (by decide) (by decide)
      have z1 : ¬ p1 = 0 := by omega
      have z2 : ¬ p2 = 0 := by omega
      have z3 : ¬ p3 = 0 := by omega
      have ll : ms.length < 16777216 := by omega
      by_cases hr0 : 0 < r <;> simp [Fo.start, ownAt_eq, bindT_name, parS_cons, ownS_list, ownS_dict, isLst, Tg.slots, wipeR, backR, occ, isOwn, pkI_var, evE_lc, e1, e2, e3, m0, m1, m2, m3, m4, m5, m6, m7, d1, z1, z2, z3, hr0, kApp3_ok, ll]
      all_goals exact ⟨_, _, ⟨rfl, app_int _ _⟩, by simp [hl]⟩
    · rintro _ ⟨r, ms, s8, s9, rfl, hl⟩
      simp [Fo.start, ownAt_eq, bindT_name, parS_cons, ownS_list, ownS_dict, isLst, Tg.slots, wipeR, backR, occ, isOwn, pkI_var, evE_lc]
      exact ⟨ms, rfl⟩
    · exact ⟨_, [], .no, .no, rfl, rfl⟩
theorem r_bag (n : Nat) (ns : List Int) (k : Nat) (hk : k < 1000) : ∃ ms : List Int, callF Q (n + 3) 13 [.list (ns.map .int), .int k] = .ok (.list (ms.map .int), []) := by
  obtain ⟨ms, h⟩ := r_draws n ns k hk
  refine ⟨ms, ?_⟩
  rw [callQ (F := F13) rfl rfl]
  simp [F13, Fo.start, ownAt_eq, bindT_name, parS_cons, ownS_list, ownS_dict, isLst, Tg.slots, wipeR, backR, occ, isOwn, pkI_var, evE_lc, h]
theorem ints_shaped (ms : List Int) : PyData.canLayAll0 (ms.map .int) = true ∧ PyData.depthAll (ms.map .int) ≤ 1 := by
  induction ms with
  | nil => simp [PyData.canLayAll0, PyData.depthAll]
  | cons x r ih => simp [PyData.canLayAll0, PyData.depthAll, PyData.canLay0, PyData.depth, ih]
/-- a draw -/
theorem r_take (n : Nat) (ms : List Int) (m : Int) (hm : 0 < m) : ∃ (a : Nat) (ms' : List Int), callF Q (n + 1) 14 [.list (ms.map .int), .int m] = .ok (.int a, ms'.map .int) ∧ (a : Int) < m := by
  rw [callQ (F := F14) rfl rfl]
  have m0 : ¬ m = 0 := by omega
  cases ms with
  | nil =>
    refine ⟨0, [], ?_, by omega⟩
    simp [F14, Fo.start, ownAt_eq, bindT_name, parS_cons, ownS_list, ownS_dict, isLst, Tg.slots, wipeR, backR, occ, isOwn, pkI_var, evE_lc, inOk, SeqAt.shaped, PyData.canLay0, PyData.canLayAll0, PyData.depth, PyData.depthAll, eqOk, scalD, m0, PyData.eqv, PyData.eqvAll]
  | cons x r =>
    have h1 := ints_shaped r
    have h2 := Int.fmod_nonneg_of_pos x hm
    have h3 := Int.fmod_lt_of_pos x hm
    have h4 : PyData.depthAll (r.map .int) ≤ 63 := by omega
    refine ⟨(x.fmod m).toNat, r, ?_, by omega⟩
    rw [Int.toNat_of_nonneg h2]
    simp [F14, Fo.start, ownAt_eq, bindT_name, parS_cons, ownS_list, ownS_dict, isLst, Tg.slots, wipeR, backR, occ, isOwn, pkI_var, evE_lc, inOk, SeqAt.shaped, PyData.canLay0, PyData.canLayAll0, PyData.depth, PyData.depthAll, eqOk, scalD, m0, PyData.eqv, PyData.eqvAll, h1.1, h4]
/-- one of some -/
theorem r_choice (n : Nat) (ms : List Int) (xs : List PyData) (hx : xs ≠ []) : ∃ (a : Nat) (ms' : List Int) (h : a < xs.length), callF Q (n + 2) 15 [.list (ms.map .int), .list xs] = .ok (xs[a], ms'.map .int) := by
  have hl : 0 < xs.length := List.length_pos_iff.mpr hx
  obtain ⟨a, ms', e, ha⟩ := r_take n ms xs.length (by omega)
  have hb : a < xs.length := by omega
  refine ⟨a, ms', hb, ?_⟩
  rw [callQ (F := F15) rfl rfl]
  simp [F15, Fo.start, ownAt_eq, bindT_name, parS_cons, ownS_list, ownS_dict, isLst, Tg.slots, wipeR, backR, occ, isOwn, pkI_var, evE_lc, e, List.getElem?_eq_getElem hb]
end Lk

set_option Elab.async false
set_option linter.all false
set_option maxRecDepth 100000
set_option maxHeartbeats 2000000
/-! PH: a random step, a random plan. -/
namespace Lk
open PySem Fo
theorem r_step (n : Nat) (ms : List Int) (ks : List Kd) (h4 : 4 ≤ ks.length) (h9 : ks.length ≤ 1000) : ∃ (st : St) (ms' : List Int) (k : Kd), callF Q (n + 3) 18 [.list (ms.map .int), .list (ks.map Kd.d)] = .ok (st.enc, ms'.map .int) ∧ st.kind ks = some k := by
  obtain ⟨a, m1, e1, ha⟩ := r_take (n + 1) ms ks.length (by omega)
  obtain ⟨b, m2, e2, hb⟩ := r_take (n + 1) m1 (ks.length - 1) (by omega)
  obtain ⟨w, m3, e3, hw⟩ := r_take (n + 1) m2 8 (by omega)
  obtain ⟨c, m4, hc, e4⟩ := r_choice n m3 [.str "upright", .str "level", .str "up", .str "down", .str "up"] (by simp)
  have ha' : a < ks.length := by omega
  have hz : ¬ ks = [] := by rintro rfl; simp at h4
  have hb' : ((a : Int) + 1 + b).fmod ks.length = (((a + 1 + b) % ks.length : Nat) : Int) := by
    rw [Int.fmod_eq_emod_of_nonneg _ (by omega)]
    simp
  generalize hd : (a + 1 + b) % ks.length = d at hb'
  have hdl : d < ks.length := by rw [← hd]; exact Nat.mod_lt _ (by omega)
  have hne : a ≠ d := by
    rw [← hd]
    by_cases q : a + 1 + b < ks.length
    · rw [Nat.mod_eq_of_lt q]; omega
    · rw [Nat.mod_eq_sub_mod (by omega), Nat.mod_eq_of_lt (by omega)]; omega
  have hk : ∃ q : Kd, [PyData.str "upright", .str "level", .str "up", .str "down", .str "up"][c] = q.d := by
    simp at hc
    have : c = 0 ∨ c = 1 ∨ c = 2 ∨ c = 3 ∨ c = 4 := by omega
    rcases this with rfl | rfl | rfl | rfl | rfl
    · exact ⟨.U, rfl⟩
    · exact ⟨.L, rfl⟩
    · exact ⟨.P, rfl⟩
    · exact ⟨.D, rfl⟩
    · exact ⟨.P, rfl⟩
  obtain ⟨q, hq⟩ := hk
  rw [hq] at e4
  rw [callQ (F := F18) rfl rfl]
  by_cases e : kat ks a = kat ks d
  · by_cases w7 : (w : Int) < 7
    · by_cases w4 : (w : Int) < 4
      · refine ⟨.mid a d, m3, kat ks a, ?_, by simp [St.kind, ha', hdl, hne, e]⟩
        simp [F18, Fo.start, ownAt_eq, bindT_name, parS_cons, ownS_list, ownS_dict, isLst, Tg.slots, wipeR, backR, occ, isOwn, pkI_var, evE_lc, e1, e2, e3, hz, hb', kat_get ha', kat_get hdl, eqK, okK, e, w7, w4, St.enc]
      · refine ⟨.thd a d, m3, kat ks a, ?_, by simp [St.kind, ha', hdl, hne, e]⟩
        simp [F18, Fo.start, ownAt_eq, bindT_name, parS_cons, ownS_list, ownS_dict, isLst, Tg.slots, wipeR, backR, occ, isOwn, pkI_var, evE_lc, e1, e2, e3, hz, hb', kat_get ha', kat_get hdl, eqK, okK, e, w7, w4, St.enc]
    · refine ⟨.mir a d, m3, _, ?_, by simp [St.kind, ha', hdl, hne]; rfl⟩
      simp [F18, Fo.start, ownAt_eq, bindT_name, parS_cons, ownS_list, ownS_dict, isLst, Tg.slots, wipeR, backR, occ, isOwn, pkI_var, evE_lc, e1, e2, e3, hz, hb', kat_get ha', kat_get hdl, eqK, okK, e, w7, St.enc]
  · by_cases w6 : (w : Int) < 6
    · refine ⟨.thr a d q, m4, q, ?_, by simp [St.kind, ha', hdl, hne, e]⟩
      simp [F18, Fo.start, ownAt_eq, bindT_name, parS_cons, ownS_list, ownS_dict, isLst, Tg.slots, wipeR, backR, occ, isOwn, pkI_var, evE_lc, e1, e2, e3, hz, hb', kat_get ha', kat_get hdl, eqK, okK, e, w6, St.enc, e4]
    · refine ⟨.mir a d, m3, _, ?_, by simp [St.kind, ha', hdl, hne]; rfl⟩
      simp [F18, Fo.start, ownAt_eq, bindT_name, parS_cons, ownS_list, ownS_dict, isLst, Tg.slots, wipeR, backR, occ, isOwn, pkI_var, evE_lc, e1, e2, e3, hz, hb', kat_get ha', kat_get hdl, eqK, okK, e, w6, St.enc]
/-- a plan -/
def Plan (sts : List St) : Prop := ∃ ks, kindsP E0 sts = some ks
theorem kindsP_len : ∀ {sts : List St} {k0 ks : List Kd}, kindsP k0 sts = some ks → ks.length = k0.length + sts.length
  | [], k0, ks, h => by cases h; rfl
  | s :: r, k0, ks, h => by
    rw [kindsP_cons] at h
    cases e : s.kind k0 with
    | none => rw [e] at h; cases h
    | some k =>
      rw [e] at h
      have := kindsP_len (show kindsP (k0 ++ [k]) r = some ks from h)
      simp at this
      simp only [List.length_cons]
      omega
theorem wp_kIt {r : RA} {k : ItK} {P : List PyData × Rho → Prop} (h : wp r fun p => wp (kIt (.ok p) k) P) : wp (kIt r k) P := by
  obtain ⟨⟨f, ρ⟩, rfl, h⟩ := h
  exact h
theorem plan_cons {sts : List St} {ks : List Kd} {st : St} {k : Kd} (h : kindsP E0 sts = some ks) (hs : st.kind ks = some k) : Plan (sts ++ [st]) := by
  refine ⟨ks ++ [k], ?_⟩
  rw [kindsP_app, h]
  show kindsP ks [st] = _
  rw [kindsP_cons, hs]
  rfl
theorem pair_at (c : Nat) (hc : c < 5) : ∃ a b : Nat, [PyData.tuple [.int 0, .int 1], .tuple [.int 0, .int 3], .tuple [.int 2, .int 1], .tuple [.int 3, .int 2], .tuple [.int 0, .int 1]][c]'hc = .tuple [.int a, .int b] ∧ a < 4 ∧ b < 4 ∧ a ≠ b ∧ kat E0 a ≠ kat E0 b := by
  have : c = 0 ∨ c = 1 ∨ c = 2 ∨ c = 3 ∨ c = 4 := by omega
  rcases this with rfl | rfl | rfl | rfl | rfl
  · exact ⟨0, 1, rfl, by decide, by decide, by decide, by decide⟩
  · exact ⟨0, 3, rfl, by decide, by decide, by decide, by decide⟩
  · exact ⟨2, 1, rfl, by decide, by decide, by decide, by decide⟩
  · exact ⟨3, 2, rfl, by decide, by decide, by decide, by decide⟩
  · exact ⟨0, 1, rfl, by decide, by decide, by decide, by decide⟩
theorem ud_at (c : Nat) (hc : c < 2) : ∃ k : Kd, [PyData.str "up", .str "down"][c]'hc = k.d := by
  have : c = 0 ∨ c = 1 := by omega
  rcases this with rfl | rfl
  · exact ⟨.P, rfl⟩
  · exact ⟨.D, rfl⟩
def IPlan (m : Nat) (s4 : Sl) (ρ : Rho) : Prop := ∃ (sts : List St) (m2 : List Int) (s3 : Sl), ρ = [.own (.list (m2.map .int)), .val (.int m), .val (.tuple (sts.map St.enc)), s3, s4] ∧ Plan sts ∧ sts.length ≤ max m 1
def OPlan (m : Nat) (p : PyData × List PyData) : Prop := ∃ (sts : List St) (ms' : List Int), p = (.tuple (sts.map St.enc), ms'.map .int) ∧ Plan sts ∧ sts.length ≤ max m 1
def OFlP (Z : PyData × List PyData → Prop) (p : Fl × Rho) : Prop := ∃ d zs ρ, p = (.ret d, .own (.list zs) :: ρ) ∧ Z (d, zs)
theorem r_plan (n : Nat) (ms : List Int) (m : Nat) (hm : m ≤ 100) : ∃ (sts : List St) (ms' : List Int), callF Q (n + 4) 20 [.list (ms.map .int), .int m] = .ok (.tuple (sts.map St.enc), ms'.map .int) ∧ Plan sts ∧ sts.length ≤ max m 1 := by
  suffices h : wp (callF Q (n + 4) 20 [.list (ms.map .int), .int m]) (OPlan m) by
    obtain ⟨_, e, sts, ms', rfl, h⟩ := h; exact ⟨sts, ms', e, h⟩
  rw [callQ (F := F20) rfl rfl]
  refine wp_finI ?_
  show wp _ (OFlP (OPlan m))
  obtain ⟨a, m1, e1, ha⟩ := r_take (n + 2) ms 4 (by omega)
  have main : ∀ (sts : List St) (m1 : List Int) (s3 s4 : Sl), Plan sts → sts.length ≤ max m 1 → wp (evS (Q.ctx (n + 3)) (.seq (.loop (.name 3) .rng1 (.cons (.callIo 14 0 (.cons (.bin .add (.var 1) (.cst (.int 1))) .nil)) .nil) (.seq (.cond (.cmp .lt (.bi .len (.cons (.var 2) .nil)) (.var 1)) (.seq (.set (.name 2) (.bin .add (.var 2) (.tup (.cons (.callIo 18 0 (.cons (.call 19 (.cons (.var 2) .nil)) .nil)) .nil)))) .skip) .skip) .skip)) (.seq (.ret (.var 2)) .skip)) [.own (.list (m1.map .int)), .val (.int m), .val (.tuple (sts.map St.enc)), s3, s4]) (OFlP (OPlan m)) := by
    intro sts m1 s3 s4 hp hl
    obtain ⟨b, m2, e2, hb⟩ := r_take (n + 2) m1 ((m : Int) + 1) (by omega)
    have hr := kIt_r1 b (by omega)
    simp [Fo.start, ownAt_eq, bindT_name, parS_cons, ownS_list, ownS_dict, isLst, Tg.slots, wipeR, backR, occ, isOwn, pkI_var, evE_lc, e2, hr]
    refine wp_seq (wp_goR (fun i ρ => IPlan m s4 ρ) ?_ ?_ ?_)
    · rintro i _ hi ⟨sts, m2, s3, rfl, ⟨ks, hk⟩, hl⟩
      have hkl := kindsP_len hk
      simp [E0] at hkl
      by_cases hlt : (sts.length : Int) < m
      · have h1 := r_law_kinds (n + 1) sts ks hk (by omega)
        obtain ⟨st, m3, k, e3, hs⟩ := r_step n m2 ks (by omega) (by omega)
        have h2 : sts.length + 1 ≤ 16777216 := by omega
        simp [Fo.start, ownAt_eq, bindT_name, parS_cons, ownS_list, ownS_dict, isLst, Tg.slots, wipeR, backR, occ, isOwn, pkI_var, evE_lc, hlt, h1, e3, h2]
        exact ⟨sts ++ [st], m3, _, by simp; rfl, plan_cons hk hs, by simp; omega⟩
      · simp [Fo.start, ownAt_eq, bindT_name, parS_cons, ownS_list, ownS_dict, isLst, Tg.slots, wipeR, backR, occ, isOwn, pkI_var, evE_lc, hlt]
        exact ⟨sts, m2, _, rfl, ⟨ks, hk⟩, hl⟩
    · rintro _ ⟨sts, m2, s3, rfl, hp, hl⟩
      simp [Fo.start, ownAt_eq, bindT_name, parS_cons, ownS_list, ownS_dict, isLst, Tg.slots, wipeR, backR, occ, isOwn, pkI_var, evE_lc]
      exact ⟨_, _, _, rfl, sts, m2, rfl, hp, hl⟩
    · exact ⟨sts, m2, _, rfl, hp, hl⟩
  by_cases h0 : 0 < a
  · obtain ⟨c, m2, hc, e2⟩ := r_choice (n + 1) m1 [.tuple [.int 0, .int 1], .tuple [.int 0, .int 3], .tuple [.int 2, .int 1], .tuple [.int 3, .int 2], .tuple [.int 0, .int 1]] (by simp)
    obtain ⟨x, y, ep, hx, hy, xy, kxy⟩ := pair_at c (by simpa using hc)
    rw [ep] at e2
    obtain ⟨c2, m3, hc2, e3⟩ := r_choice (n + 1) m2 [.str "up", .str "down"] (by simp)
    obtain ⟨q, eq⟩ := ud_at c2 (by simpa using hc2)
    rw [eq] at e3
    have := main [.thr x y q] m3 .no (.val (.tuple [.int x, .int y])) ⟨E0 ++ [q], by rw [kindsP_cons]; have e0 : E0.length = 4 := rfl; simp [St.kind, e0, hx, hy, xy, kxy]; rfl⟩ (by simp; omega)
    simpa [F20, Fo.start, ownAt_eq, bindT_name, parS_cons, ownS_list, ownS_dict, isLst, Tg.slots, wipeR, backR, occ, isOwn, pkI_var, evE_lc, St.enc, e1, h0, e2, e3] using this
  · have := main [] m1 .no .no ⟨E0, rfl⟩ (by simp)
    have h0 : a = 0 := by omega
    subst h0
    simpa [F20, Fo.start, ownAt_eq, bindT_name, parS_cons, ownS_list, ownS_dict, isLst, Tg.slots, wipeR, backR, occ, isOwn, pkI_var, evE_lc, e1] using this
end Lk

set_option Elab.async false
set_option linter.all false
set_option maxRecDepth 100000
set_option maxHeartbeats 2000000
/-! PI: numbers: greatest divisors, pairs, ratios. -/
namespace Lk
open PySem Fo
theorem goW_step {tst : Rho → R (Bool × Rho)} {body : Rho → R (Fl × Rho)} {m : Nat} {ρ ρ1 ρ2 : Rho} (h1 : tst ρ = .ok (true, ρ1)) (h2 : body ρ1 = .ok (.next, ρ2)) : goW tst body (m + 1) ρ = goW tst body m ρ2 := by
  have e : goW tst body (m + 1) ρ = (tst ρ).bind fun (t, ρ1) => if t = true then (body ρ1).bind fun (f, ρ2) => match f with
      | .next => goW tst body m ρ2
      | .ret d => .ok (.ret d, ρ2)
    else .ok (.next, ρ1) := rfl
  rw [e, h1]
  simp [h2]
theorem goW_stop {tst : Rho → R (Bool × Rho)} {body : Rho → R (Fl × Rho)} {m : Nat} {ρ ρ1 : Rho} (h1 : tst ρ = .ok (false, ρ1)) : goW tst body (m + 1) ρ = .ok (.next, ρ1) := by
  unfold goW
  rw [h1]
  rfl
/-- the greatest divisor, by any two slots -/
theorem gcd_go {tst : Rho → R (Bool × Rho)} {body : Rho → R (Fl × Rho)} (st : Int → Int → Rho) (h1 : ∀ a b, tst (st a b) = .ok (decide (b ≠ 0), st a b)) (h2 : ∀ a b, b ≠ 0 → body (st a b) = .ok (.next, st b (a.fmod b))) :
    ∀ (m : Nat) (a b : Nat), b < m → goW tst body m (st a b) = .ok (.next, st (Nat.gcd b a : Nat) 0)
  | 0, a, b, h => by omega
  | m + 1, a, b, h => by
    by_cases hb : b = 0
    · subst hb
      rw [goW_stop (ρ1 := st a 0) (by rw [h1]; rfl), Nat.gcd_zero_left]
    · have ih := gcd_go st h1 h2 m b (a % b) (by have := Nat.mod_lt a (by omega : 0 < b); omega)
      have e : ((a : Int).fmod b) = ((a % b : Nat) : Int) := Int.fmod_eq_emod_of_nonneg _ (Int.natCast_nonneg b)
      rw [goW_step (ρ1 := st a b) (ρ2 := st b (a % b : Nat)) (by rw [h1]; simp [hb]) (by rw [h2 _ _ (by omega), e])]
      rw [ih, Nat.gcd_rec b a]
theorem gcd_t {tst : Rho → R (Bool × Rho)} {body : Rho → R (Fl × Rho)} (st : Int → Int → Rho) (h1 : ∀ a b, tst (st a b) = .ok (decide (b ≠ 0), st a b)) (h2 : ∀ a b, b ≠ 0 → body (st a b) = .ok (.next, st b (a.fmod b))) (a b : Int) (h : b.natAbs < turns) :
    goW tst body turns (st (a.natAbs : Int) (b.natAbs : Int)) = .ok (.next, st (Int.gcd a b : Nat) 0) := by
  rw [gcd_go st h1 h2 turns a.natAbs b.natAbs h]
  rw [Nat.gcd_comm]
  rfl
theorem r_divisor (n : Nat) (a b : Int) (h : b.natAbs < turns) : callF Q (n + 1) 2 [.int a, .int b] = .ok (.int (Int.gcd a b : Nat), []) := by
  rw [callQ (F := F2) rfl rfl]
  simp [F2, Fo.start, ownAt_eq, bindT_name, parS_cons, ownS_list, ownS_dict, isLst, Tg.slots, wipeR, backR, occ, isOwn, pkI_var, evE_lc, evS_while]
  rw [gcd_t (fun a b => [.val (.int a), .val (.int b)]) (by intro a b; simp [Fo.start, ownAt_eq, bindT_name, parS_cons, ownS_list, ownS_dict, isLst, Tg.slots, wipeR, backR, occ, isOwn, pkI_var, evE_lc]) (by intro a b hb; simp [Fo.start, ownAt_eq, bindT_name, parS_cons, ownS_list, ownS_dict, isLst, Tg.slots, wipeR, backR, occ, isOwn, pkI_var, evE_lc, hb]) a b h]
  simp [Fo.start, ownAt_eq, bindT_name, parS_cons, ownS_list, ownS_dict, isLst, Tg.slots, wipeR, backR, occ, isOwn, pkI_var, evE_lc]
theorem natAbs_turns {b : Int} (h : -1000000000000000000000000000000000000000000000000000000000000 < b) (h2 : b < 1000000000000000000000000000000000000000000000000000000000000) : b.natAbs < turns := by
  have e : turns = 1000000000000000000000000000000000000000000000000000000000000 := by decide +kernel
  omega
/-- a fraction in lowest terms -/
def lowP (t b : Int) : PyData := .tuple [.int (t / (Int.gcd t b : Nat)), .int (b / (Int.gcd t b : Nat))]
theorem gcd_le {t b : Int} (hb : 0 < b) : ((Int.gcd t b : Nat) : Int) ≤ b := by
  have h1 : ((Int.gcd t b : Nat) : Int) ∣ b := Int.gcd_dvd_right t b
  exact Int.le_of_dvd hb h1
theorem gcd_pos {t b : Int} (hb : 0 < b) : (0 : Int) < (Int.gcd t b : Nat) := by
  have : 0 < Int.gcd t b := Int.gcd_pos_of_ne_zero_right t (by omega)
  omega
theorem r_lowest (n : Nat) (t b : Int) (hb : 0 < b) (h : b < 1000000000000000000000000000000000000000000000000000000000000) : callF Q (n + 1) 16 [.int t, .int b] = .ok (lowP t b, []) := by
  rw [callQ (F := F16) rfl rfl]
  have g1 := gcd_pos (t := t) hb
  have g2 := gcd_le (t := t) hb
  have hm : ∀ x, mulOk 1 x = true := fun x => mulOk_l (by decide) (by decide)
  have big0 : True := trivial
  have big : (1000000000000000000000000000000000000000000000000000000000000 : Int) < 2 ^ 4000 := by decide +kernel
  have hd : ∀ x, divOk x (Int.gcd t b : Nat) = true := fun x => divOk_p g1 (Int.lt_of_le_of_lt g2 (Int.lt_trans h big))
  have fd : ∀ x : Int, x.fdiv (Int.gcd t b : Nat) = x / (Int.gcd t b : Nat) := fun x => Int.fdiv_eq_ediv_of_nonneg x (Int.le_of_lt g1)
  simp [F16, Fo.start, ownAt_eq, bindT_name, parS_cons, ownS_list, ownS_dict, isLst, Tg.slots, wipeR, backR, occ, isOwn, pkI_var, evE_lc, evS_while]
  rw [gcd_t (fun x y => [.val (.int t), .val (.int b), .no, .val (.int x), .val (.int y)]) (by intro a b; simp [Fo.start, ownAt_eq, bindT_name, parS_cons, ownS_list, ownS_dict, isLst, Tg.slots, wipeR, backR, occ, isOwn, pkI_var, evE_lc]) (by intro a b hb; simp [Fo.start, ownAt_eq, bindT_name, parS_cons, ownS_list, ownS_dict, isLst, Tg.slots, wipeR, backR, occ, isOwn, pkI_var, evE_lc, hb]) t b (natAbs_turns (Int.lt_trans (by decide) hb) h)]
  simp [Fo.start, ownAt_eq, bindT_name, parS_cons, ownS_list, ownS_dict, isLst, Tg.slots, wipeR, backR, occ, isOwn, pkI_var, evE_lc, hb, hm, hd, fd, lowP]
theorem lowP_ok {t b : Int} (ht : 0 < t) (hb : 0 < b) : ∃ x y : Int, lowP t b = .tuple [.int x, .int y] ∧ 0 < x ∧ x ≤ t ∧ 0 < y ∧ y ≤ b ∧ Int.gcd x y = 1 ∧ x * b = t * y := by
  have g1 := gcd_pos (t := t) hb
  have gd : Int.gcd (t / (Int.gcd t b : Nat)) (b / (Int.gcd t b : Nat)) = 1 := Int.gcd_ediv_gcd_ediv_gcd_of_ne_zero_right (by omega)
  obtain ⟨x, hx⟩ : ((Int.gcd t b : Nat) : Int) ∣ t := Int.gcd_dvd_left t b
  obtain ⟨y, hy⟩ : ((Int.gcd t b : Nat) : Int) ∣ b := Int.gcd_dvd_right t b
  unfold lowP
  generalize ((Int.gcd t b : Nat) : Int) = g at *
  subst hx hy
  rw [Int.mul_ediv_cancel_left x (by omega), Int.mul_ediv_cancel_left y (by omega)] at gd ⊢
  have x0 : 0 < x := Int.lt_of_mul_lt_mul_left (a := g) (by rw [Int.mul_zero]; exact ht) (by omega)
  have y0 : 0 < y := Int.lt_of_mul_lt_mul_left (a := g) (by rw [Int.mul_zero]; exact hb) (by omega)
  have x1 : 0 ≤ (g - 1) * x := Int.mul_nonneg (by omega) (by omega)
  have y1 : 0 ≤ (g - 1) * y := Int.mul_nonneg (by omega) (by omega)
  rw [Int.sub_mul, Int.one_mul] at x1 y1
  refine ⟨x, y, rfl, x0, by omega, y0, by omega, gd, ?_⟩
  rw [Int.mul_left_comm, Int.mul_assoc]
/-- a pair of numbers between two bounds, without a common divisor -/
def isPair (v : PyData) (lo hi : Int) : Bool := match v with
  | .tuple [x, y] => isWhole x lo hi && isWhole y lo hi && (match x, y with | .int a, .int b => decide (Int.gcd a b = 1) | _, _ => false)
  | _ => false
theorem planK_enc' {sts : List St} {ks : List Kd} (h : kindsP E0 sts = some ks) (hl : sts.length ≤ 6) : planK (.tuple (sts.map St.enc)) = some ks := by
  have : planK (.tuple (sts.map St.enc)) = kindsD E0 (sts.map St.enc) := if_pos (by simpa using hl)
  rw [this, kindsD_enc, h]
/-! shapes -/
mutual
theorem eqv_self : ∀ (d : PyData), d.canLay0 = true → PyData.eqv d d = true
  | .none, _ => by unfold PyData.eqv; rfl
  | .bool b, _ => by unfold PyData.eqv; simp
  | .int i, _ => by unfold PyData.eqv; simp
  | .str s, _ => by unfold PyData.eqv; simp
  | .list xs, h => by unfold PyData.eqv; exact eqvAll_self xs (by simpa [PyData.canLay0] using h)
  | .tuple xs, h => by unfold PyData.eqv; exact eqvAll_self xs (by simpa [PyData.canLay0] using h)
  | .dict _, h => by simp [PyData.canLay0] at h
theorem eqvAll_self : ∀ (ds : List PyData), PyData.canLayAll0 ds = true → PyData.eqvAll ds ds = true
  | [], _ => by unfold PyData.eqvAll; rfl
  | x :: r, h => by
    unfold PyData.canLayAll0 at h
    rw [Bool.and_eq_true] at h
    unfold PyData.eqvAll
    rw [eqv_self x h.1, eqvAll_self r h.2]
    rfl
end
theorem layAll_of : ∀ {xs : List PyData} {n : Nat}, (∀ x ∈ xs, x.canLay0 = true ∧ x.depth ≤ n) → PyData.canLayAll0 xs = true ∧ PyData.depthAll xs ≤ n
  | [], n, h => by simp [PyData.canLayAll0, PyData.depthAll]
  | x :: r, n, h => by
    have h1 := h x (.head _)
    have h2 := layAll_of (xs := r) (n := n) fun y hy => h y (.tail _ hy)
    unfold PyData.canLayAll0 PyData.depthAll
    exact ⟨by rw [h1.1, h2.1]; rfl, Nat.max_le.mpr ⟨h1.2, h2.2⟩⟩
theorem pv_lay : ∀ {N M : Nat} {d : PyData}, PV N M d → d.canLay0 = true ∧ d.depth ≤ N + 1 := by
  intro N
  induction N with
  | zero => intro M d h; cases d <;> simp [PV] at h <;> simp [PyData.canLay0, PyData.depth, h]
  | succ N ih =>
    intro M d h
    cases d <;> simp [PV] at h <;> simp [PyData.canLay0, PyData.depth, h]
    all_goals
      have := layAll_of fun x hx => ih (h.2 x hx)
      exact ⟨this.1, by omega⟩
theorem pv_shaped {N M : Nat} {d : PyData} (h : PV N M d) (hn : N ≤ 60) : SeqAt.shaped d = true := by
  have := pv_lay h
  unfold SeqAt.shaped
  simp [this.1]
  omega
theorem pv_mono : ∀ {N M N' M' : Nat} {d : PyData}, PV N M d → N ≤ N' → M ≤ M' → PV N' M' d := by
  intro N
  induction N with
  | zero => intro M N' M' d h hn hm; cases d <;> cases N' <;> simp [PV] at h ⊢ <;> exact h
  | succ N ih =>
    intro M N' M' d h hn hm
    cases N' with
    | zero => omega
    | succ N' =>
      cases d <;> simp [PV] at h ⊢ <;> first | exact h | skip
      all_goals exact ⟨by omega, fun x hx => ih (h.2 x hx) (by omega) hm⟩
theorem eqOk_pv {N M N' M' : Nat} {d e : PyData} (h : PV N M d) (h' : PV N' M' e) (hn : N ≤ 60) (hn' : N' ≤ 60) : eqOk d e = true := by
  unfold eqOk
  simp [pv_shaped h hn, pv_shaped h' hn']
theorem pvx {N M : Nat} {xs : List PyData} (h1 : xs.length ≤ M) (h2 : ∀ x ∈ xs, PV N M x) : PV (N + 1) M (.tuple xs) := ⟨h1, h2⟩
theorem pvl {N M : Nat} {xs : List PyData} (h1 : xs.length ≤ M) (h2 : ∀ x ∈ xs, PV N M x) : PV (N + 1) M (.list xs) := ⟨h1, h2⟩
theorem pv_kd (k : Kd) (N M : Nat) : PV N M k.d := by
  have := strOk_kd k
  cases N <;> (unfold Kd.d PV; exact this)
theorem pv_kds (ks : List Kd) (h : ks.length ≤ 1000) : PV 1 1000 (.list (ks.map Kd.d)) := by
  refine ⟨by simpa using h, fun x hx => ?_⟩
  obtain ⟨k, _, rfl⟩ := List.mem_map.mp hx
  exact pv_kd k _ _
theorem pv_int (i : Int) (N M : Nat) : PV N M (.int i) := by cases N <;> (unfold PV; trivial)
theorem pv_none (N M : Nat) : PV N M .none := by cases N <;> (unfold PV; trivial)
theorem pv_bool (b : Bool) (N M : Nat) : PV N M (.bool b) := by cases N <;> (unfold PV; trivial)
theorem pv_str {s : Str} (h : PyData.strOk s = true) (N M : Nat) : PV N M (.str s) := by cases N <;> (unfold PV; exact h)
theorem pv_st (s : St) : PV 1 4 s.enc := by
  have w : ∀ (x : PyData) (s : Str) (a b : Nat), PyData.strOk s = true → (x = .str s ∨ x = .int a ∨ x = .int b) → PV 0 4 x := fun x s a b hs h => by
    rcases h with rfl | rfl | rfl
    · exact pv_str hs _ _
    · exact pv_int _ _ _
    · exact pv_int _ _ _
  cases s with
  | mid a b => exact ⟨by simp, fun x hx => w x "middle" a b (by simp) (by simpa using hx)⟩
  | thd a b => exact ⟨by simp, fun x hx => w x "third" a b (by simp) (by simpa using hx)⟩
  | mir a b => exact ⟨by simp, fun x hx => w x "mirror" a b (by simp) (by simpa using hx)⟩
  | thr a b k =>
    refine ⟨by simp, fun x hx => ?_⟩
    simp at hx
    rcases hx with rfl | rfl | rfl | rfl
    · exact pv_str (by simp) _ _
    · exact pv_int _ _ _
    · exact pv_int _ _ _
    · exact pv_kd _ _ _
theorem pv_plan (sts : List St) (h : sts.length ≤ 6) : PV 2 6 (.tuple (sts.map St.enc)) := by
  refine ⟨by simpa using h, fun x hx => ?_⟩
  obtain ⟨s, _, rfl⟩ := List.mem_map.mp hx
  exact pv_mono (N := 1) (M := 4) (N' := 1) (M' := 6) (pv_st s) (by decide) (by decide)
end Lk

set_option Elab.async false
set_option linter.all false
set_option maxRecDepth 100000
set_option maxHeartbeats 2000000
/-! PJ: a value spoilt. -/
namespace Lk
open PySem Fo
/-- what comes of a value -/
def SPo (N M : Nat) (r : R (PyData × List PyData)) : Prop := ∃ v' ms', r = .ok (v', List.map PyData.int ms') ∧ PV N M v'
theorem lst7 (a b c d e f g : PyData) (w : Nat) (h : w < 7) : ∃ x, [a, b, c, d, e, f, g][w]? = some x ∧ (x = a ∨ x = b ∨ x = c ∨ x = d ∨ x = e ∨ x = f ∨ x = g) := by
  have : w = 0 ∨ w = 1 ∨ w = 2 ∨ w = 3 ∨ w = 4 ∨ w = 5 ∨ w = 6 := by omega
  rcases this with rfl | rfl | rfl | rfl | rfl | rfl | rfl <;> exact ⟨_, rfl, by simp⟩
theorem cut_last (xs : List PyData) : cutD xs (some (-1)) none = xs.drop (xs.length - 1) := by
  unfold cutD
  rw [HT.sIx_none]
  have : HT.sIx xs.length 0 (some (-1)) = xs.length - 1 := by
    show (if (-1 : Int) < 0 then ((-1 : Int) + (xs.length : Int)).toNat else min (-1 : Int).toNat xs.length) = _
    rw [if_pos (by decide)]
    omega
  rw [this, List.take_of_length_le (by simp)]
theorem so_1 : PyData.strOk ("1" : Str) = true := by decide +kernel
theorem so_DOWN : PyData.strOk ("DOWN" : Str) = true := by decide +kernel
theorem more_at (c : Nat) (hc : c < 4) : ∃ x, [PyData.tuple [.str "middle", .int 0, .int 2], .tuple [.str "mirror", .int 4, .int 0], .str "up", .int 5][c]? = some x ∧ PV 1 4 x := by
  have : c = 0 ∨ c = 1 ∨ c = 2 ∨ c = 3 := by omega
  rcases this with rfl | rfl | rfl | rfl
  · exact ⟨_, rfl, pv_st (.mid 0 2)⟩
  · exact ⟨_, rfl, pv_st (.mir 4 0)⟩
  · exact ⟨_, rfl, pv_str (by simp) _ _⟩
  · exact ⟨_, rfl, pv_int _ _ _⟩
theorem eqv_nil (xs : List PyData) : PyData.eqv (.tuple xs) (.tuple []) = xs.isEmpty := by cases xs <;> (unfold PyData.eqv PyData.eqvAll; rfl)
theorem bent (xs : List PyData) (N M : Nat) (hl : xs.length ≤ M) (hx : ∀ x ∈ xs, PV N M x) (hM4 : 4 ≤ M) (y : PyData) (py : PV 1 4 y) (x : PyData)
    (h : x = .list xs ∨ x = .tuple xs.tail ∨ x = .tuple (xs ++ xs.drop (xs.length - 1)) ∨ x = .tuple xs.reverse ∨ x = .tuple [] ∨ x = .tuple (xs ++ [y]) ∨ x = .none) : PV (N + 1 + 1) (M + 1) x := by
  have up : ∀ z ∈ xs, PV (N + 1) (M + 1) z := fun z hz => pv_mono (hx z hz) (by omega) (by omega)
  rcases h with rfl | rfl | rfl | rfl | rfl | rfl | rfl
  · exact pvl (by omega) up
  · exact pvx (by simp; omega) fun z hz => up z (List.mem_of_mem_tail hz)
  · refine pvx (by simp; omega) fun z hz => ?_
    rcases List.mem_append.mp hz with hz | hz
    · exact up z hz
    · exact up z (List.mem_of_mem_drop hz)
  · exact pvx (by simp; omega) fun z hz => up z (List.mem_reverse.mp hz)
  · exact pvx (by simp) (by simp)
  · refine pvx (by simp; omega) fun z hz => ?_
    rcases List.mem_append.mp hz with hz | hz
    · exact up z hz
    · simp at hz
      subst hz
      exact pv_mono py (by omega) (by omega)
  · exact pv_none _ _
end Lk

set_option Elab.async false
set_option linter.all false
set_option maxRecDepth 100000
set_option maxHeartbeats 2000000
/-! PK: the law's ratios. -/
namespace Lk
open PySem Fo
def encR (r : Int × Int) : PyData := .tuple [.int r.1, .int r.2]
def PosR (m : Int) (r : Int × Int) : Prop := 0 < r.1 ∧ r.1 ≤ m ∧ 0 < r.2 ∧ r.2 ≤ m
def GoodR (m : Int) (r : Int × Int) : Prop := PosR m r ∧ Int.gcd r.1 r.2 = 1
theorem lowR {t b : Int} (ht : 0 < t) (hb : 0 < b) : ∃ r : Int × Int, lowP t b = encR r ∧ GoodR (max t b) r ∧ r.1 ≤ t ∧ r.2 ≤ b ∧ r.1 * b = t * r.2 := by
  obtain ⟨x, y, e, h1, h2, h3, h4, h5, h6⟩ := lowP_ok ht hb
  exact ⟨(x, y), e, ⟨⟨h1, by show x ≤ max t b; omega, h3, by show y ≤ max t b; omega⟩, h5⟩, h2, h4, h6⟩
theorem pv_R (r : Int × Int) : PV 1 2 (encR r) := pvx (N := 0) (by simp) fun x hx => by
  simp at hx
  rcases hx with rfl | rfl <;> exact pv_int _ _ _
theorem eqv_R (r q : Int × Int) : PyData.eqv (encR r) (encR q) = decide (r = q) := by
  obtain ⟨a, b⟩ := r
  obtain ⟨c, d⟩ := q
  simp [encR, PyData.eqv, PyData.eqvAll]
  rfl
theorem eqOk_R (r q : Int × Int) : eqOk (encR r) (encR q) = true := eqOk_pv (pv_R r) (pv_R q) (by omega) (by omega)
def ISim (P : Nat) (L : Nat) (s2 : Sl) (ρ : Rho) : Prop := ∃ (rs : List (Int × Int)) (s3 : Sl), ρ = [.val (.int P), .own (.list (rs.map encR)), s2, s3] ∧ (∀ r ∈ rs, GoodR P r) ∧ rs.length ≤ L
def ISimO (P : Nat) (L : Nat) (ρ : Rho) : Prop := ∃ s2, ISim P L s2 ρ
def OSim (P : Nat) (p : PyData × List PyData) : Prop := ∃ (rs : List (Int × Int)), p = (.list (rs.map encR), []) ∧ (∀ r ∈ rs, GoodR P r) ∧ rs.length ≤ 1000000
def OFlO (Z : PyData × List PyData → Prop) (p : Fl × Rho) : Prop := ∃ xs, p.1 = .ret (.list xs) ∧ Z (.list xs, [])
theorem r_simple (n P : Nat) (h2 : 1 ≤ P) (hP : P ≤ 1000) : ∃ (rs : List (Int × Int)), callF Q (n + 2) 21 [.int P] = .ok (.list (rs.map encR), []) ∧ (∀ r ∈ rs, GoodR P r) ∧ rs.length ≤ 1000000 := by
  suffices h : wp (callF Q (n + 2) 21 [.int P]) (OSim P) by
    obtain ⟨_, e, rs, rfl, h⟩ := h; exact ⟨rs, e, h⟩
  rw [callQ (F := F21) rfl rfl]
  refine wp_finO ?_
  show wp _ (OFlO (OSim P))
  have hr := kIt_r2 2 ((P : Int) + 1) (by omega) (by omega)
  have e1 : (((P : Int) + 1) - 2).toNat = P - 1 := by omega
  simp [F21, Fo.start, ownAt_eq, bindT_name, parS_cons, ownS_list, ownS_dict, isLst, Tg.slots, wipeR, backR, occ, isOwn, pkI_var, evE_lc, hr, e1]
  refine wp_seq (wp_goR (fun i ρ => ISimO P (i * 1000) ρ) ?_ ?_ ?_)
  · rintro i _ hi ⟨s2, rs, s3, rfl, hg, hl⟩
    have hr := kIt_r2 1 (2 + (i : Int)) (by omega) (by omega)
    have e1 : ((2 + (i : Int)) - 1).toNat = i + 1 := by omega
    simp [Fo.start, ownAt_eq, bindT_name, parS_cons, ownS_list, ownS_dict, isLst, Tg.slots, wipeR, backR, occ, isOwn, pkI_var, evE_lc, hr, e1]
    refine wp_seq (wp_goR (fun j ρ => ISim P (i * 1000 + j) (.val (.int (2 + i))) ρ) ?_ ?_ ?_)
    · rintro j _ hj ⟨rs, s3, rfl, hg, hl⟩
      have e2 := r_lowest n (1 + (j : Int)) (2 + (i : Int) - (1 + (j : Int))) (by omega) (by omega)
      obtain ⟨r, er, gr, b1, b2, b3⟩ := lowR (t := 1 + (j : Int)) (b := 2 + (i : Int) - (1 + (j : Int))) (by omega) (by omega)
      rw [er] at e2
      have e3 : PyData.tuple [.int (1 + (j : Int)), .int (2 + (i : Int) - (1 + (j : Int)))] = encR (1 + (j : Int), 2 + (i : Int) - (1 + (j : Int))) := rfl
      have l1 : rs.length < 16777216 := by omega
      by_cases q : r = (1 + (j : Int), 2 + (i : Int) - (1 + (j : Int)))
      · simp [Fo.start, ownAt_eq, bindT_name, parS_cons, ownS_list, ownS_dict, isLst, Tg.slots, wipeR, backR, occ, isOwn, pkI_var, evE_lc, e2, e3, eqv_R, eqOk_R, q, kApp3_ok, l1]
        refine ⟨rs ++ [r], _, by simp [q]; rfl, ?_, by simp; omega⟩
        intro z hz
        rcases List.mem_append.mp hz with hz | hz
        · exact hg z hz
        · simp at hz
          subst hz
          obtain ⟨⟨g1, g2, g3, g4⟩, g5⟩ := gr
          exact ⟨⟨g1, by omega, g3, by omega⟩, g5⟩
      · simp [Fo.start, ownAt_eq, bindT_name, parS_cons, ownS_list, ownS_dict, isLst, Tg.slots, wipeR, backR, occ, isOwn, pkI_var, evE_lc, e2, e3, eqv_R, eqOk_R, q]
        exact ⟨rs, _, rfl, hg, by omega⟩
    · rintro _ ⟨rs, s3, rfl, hg, hl⟩
      simp [Fo.start, ownAt_eq, bindT_name, parS_cons, ownS_list, ownS_dict, isLst, Tg.slots, wipeR, backR, occ, isOwn, pkI_var, evE_lc]
      exact ⟨_, rs, _, rfl, hg, by omega⟩
    · exact ⟨rs, _, rfl, hg, by omega⟩
  · rintro _ ⟨s2, rs, s3, rfl, hg, hl⟩
    simp [Fo.start, ownAt_eq, bindT_name, parS_cons, ownS_list, ownS_dict, isLst, Tg.slots, wipeR, backR, occ, isOwn, pkI_var, evE_lc]
    exact ⟨_, rfl, rs, rfl, hg, by omega⟩
  · exact ⟨_, [], _, rfl, by simp, by simp⟩
/-- what _law_some is handed and hands back -/
def ptOk (r : Int × Int) : Prop := r.1 < 100000000000000000000000000000000000000000000000000 ∧ r.2 < 100000000000000000000000000000000000000000000000000 ∧ Int.gcd r.1 r.2 = 1
def ISome (pts : List (Int × Int)) (L : Nat) (xs : List (Int × Int)) (ρ : Rho) : Prop := ∃ (rs : List (Int × Int)) (ms : List Int) (s3 s4 s5 : Sl), ρ = [.own (.list (ms.map .int)), .val (.list (pts.map encR)), .own (.list (rs.map encR)), s3, s4, s5] ∧
  (∀ r ∈ rs, GoodR 1000000000000000000000000000000000000000000000000000000000 r) ∧ rs.length + 3 * xs.length ≤ L
def ISomeX (pts : List (Int × Int)) (L : Nat) (xs : List (Int × Int)) (ρ : Rho) : Prop := ISome pts L xs ρ ∧ ∀ r ∈ xs, ptOk r
def ISome2 (pts : List (Int × Int)) (L : Nat) (i : Nat) (ρ : Rho) : Prop := ∃ (rs ls : List (Int × Int)) (ms : List Int) (s3 s4 s5 : Sl), ρ = [.own (.list (ms.map .int)), .val (.list (pts.map encR)), .own (.list ((rs ++ ls).map encR)), s3, s4, s5] ∧
  (∀ r ∈ rs, GoodR 1000000000000000000000000000000000000000000000000000000000 r) ∧ (∀ r ∈ ls, GoodR 100000 r) ∧ rs.length ≤ L ∧ ls.length = i
def OSome (L : Nat) (p : PyData × List PyData) : Prop := ∃ (rs ls : List (Int × Int)) (ms : List Int), p = (.list ((rs ++ ls).map encR), ms.map .int) ∧ (∀ r ∈ rs, GoodR 1000000000000000000000000000000000000000000000000000000000 r) ∧ (∀ r ∈ ls, GoodR 100000 r) ∧ rs.length ≤ L ∧ ls.length = 8
theorem r_some (n : Nat) (ms : List Int) (pts : List (Int × Int)) (hp : ∀ r ∈ pts, ptOk r) (hl : pts.length ≤ 1000000) : ∃ (rs ls : List (Int × Int)) (ms' : List Int), callF Q (n + 3) 22 [.list (ms.map .int), .list (pts.map encR)] = .ok (.list ((rs ++ ls).map encR), ms'.map .int) ∧
    (∀ r ∈ rs, GoodR 1000000000000000000000000000000000000000000000000000000000 r) ∧ (∀ r ∈ ls, GoodR 100000 r) ∧ rs.length ≤ 4000000 ∧ ls.length = 8 := by
  suffices h : wp (callF Q (n + 3) 22 [.list (ms.map .int), .list (pts.map encR)]) (OSome 4000000) by
    obtain ⟨_, e, rs, ls, ms, rfl, h⟩ := h; exact ⟨rs, ls, ms, e, h⟩
  rw [callQ (F := F22) rfl rfl]
  refine wp_finI ?_
  show wp _ (OFlP (OSome 4000000))
  obtain ⟨rs, e1, hg, hrl⟩ := r_simple n 12 (by decide) (by decide)
  have e1 : callF Q (n + 2) 21 [.int 12] = .ok (.list (rs.map encR), []) := e1
  simp [F22, Fo.start, ownAt_eq, bindT_name, parS_cons, ownS_list, ownS_dict, isLst, Tg.slots, wipeR, backR, occ, isOwn, pkI_var, evE_lc, e1]
  refine wp_seq (wp_goM (fun xs ρ => ISomeX pts 4000000 xs ρ) ?_ ?_ ?_)
  · rintro ⟨a, b⟩ xs _ ⟨⟨rs, ms, s3, s4, s5, rfl, hp, hl⟩, hx⟩
    obtain ⟨p1, p2, p3⟩ := hx (a, b) (.head _)
    simp only at p1 p2 p3
    simp only [List.length_cons] at hl
    have hx' : ∀ r ∈ xs, ptOk r := fun r hr => hx r (.tail _ hr)
    have m1 : ∀ x, mulOk x 1000000 = true := fun x => mulOk_r (by decide) (by decide)
    have l1 : rs.length + 2 ≤ 16777216 := by omega
    have l2 : rs.length + 2 < 16777216 := by omega
    have e0 : encR (a, b) = .tuple [.int a, .int b] := rfl
    by_cases ha : 0 < a
    · by_cases hb : 0 < b
      · have e2 := r_lowest (n + 1) (a * 1000000 + 1) (b * 1000000) (by omega) (by omega)
        have e3 := r_lowest (n + 1) (a * 1000000) (b * 1000000 + 1) (by omega) (by omega)
        obtain ⟨r, er, ⟨⟨g1, g2, g3, g4⟩, g5⟩, _⟩ := lowR (t := a * 1000000 + 1) (b := b * 1000000) (by omega) (by omega)
        obtain ⟨q, eq, ⟨⟨k1, k2, k3, k4⟩, k5⟩, _⟩ := lowR (t := a * 1000000) (b := b * 1000000 + 1) (by omega) (by omega)
        rw [er] at e2
        rw [eq] at e3
        simp [Fo.start, ownAt_eq, bindT_name, parS_cons, ownS_list, ownS_dict, isLst, Tg.slots, wipeR, backR, occ, isOwn, pkI_var, evE_lc, e0, ha, hb, m1, e2, e3, l1, l2, kApp3_ok]
        refine ⟨⟨rs ++ [(a, b), r, q], ms, _, _, _, by simp [e0]; exact ⟨rfl, rfl, rfl⟩, ?_, by simp; omega⟩, hx'⟩
        intro z hz
        rcases List.mem_append.mp hz with hz | hz
        · exact hp z hz
        · simp at hz
          rcases hz with rfl | rfl | rfl
          · exact ⟨⟨ha, by show a ≤ _; omega, hb, by show b ≤ _; omega⟩, p3⟩
          · exact ⟨⟨g1, by omega, g3, by omega⟩, g5⟩
          · exact ⟨⟨k1, by omega, k3, by omega⟩, k5⟩
      · simp [Fo.start, ownAt_eq, bindT_name, parS_cons, ownS_list, ownS_dict, isLst, Tg.slots, wipeR, backR, occ, isOwn, pkI_var, evE_lc, e0, ha, hb]
        exact ⟨⟨rs, ms, _, _, _, rfl, hp, by omega⟩, hx'⟩
    · simp [Fo.start, ownAt_eq, bindT_name, parS_cons, ownS_list, ownS_dict, isLst, Tg.slots, wipeR, backR, occ, isOwn, pkI_var, evE_lc, e0, ha]
      exact ⟨⟨rs, ms, _, _, _, rfl, hp, by omega⟩, hx'⟩
  · rintro _ ⟨⟨rs, ms, s3, s4, s5, rfl, hp, hl⟩, hx⟩
    have hr := kIt_r1 8 (by omega)
    simp only [List.length_nil] at hl
    simp [Fo.start, ownAt_eq, bindT_name, parS_cons, ownS_list, ownS_dict, isLst, Tg.slots, wipeR, backR, occ, isOwn, pkI_var, evE_lc, hr]
    refine wp_seq (wp_goR (fun i ρ => ISome2 pts 4000000 i ρ) ?_ ?_ ?_)
    · rintro i _ hi ⟨rs, ls, ms, s3, s4, s5, rfl, h1, h2, h3, h4⟩
      obtain ⟨x, m1, e2, hx⟩ := r_take (n + 1) ms 100000 (by omega)
      obtain ⟨y, m2, e3, hy⟩ := r_take (n + 1) m1 100000 (by omega)
      have e4 := r_lowest (n + 1) (1 + (x : Int)) (1 + (y : Int)) (by omega) (by omega)
      obtain ⟨r, er, ⟨⟨g1, g2, g3, g4⟩, g5⟩, _⟩ := lowR (t := 1 + (x : Int)) (b := 1 + (y : Int)) (by omega) (by omega)
      rw [er] at e4
      have l1 : rs.length + ls.length < 16777216 := by omega
      simp [Fo.start, ownAt_eq, bindT_name, parS_cons, ownS_list, ownS_dict, isLst, Tg.slots, wipeR, backR, occ, isOwn, pkI_var, evE_lc, e2, e3, e4, l1, kApp3_ok]
      refine ⟨rs, ls ++ [r], m2, _, _, _, by simp; exact ⟨rfl, rfl, rfl⟩, h1, ?_, h3, by simp [h4]⟩
      intro z hz
      rcases List.mem_append.mp hz with hz | hz
      · exact h2 z hz
      · simp at hz
        subst hz
        exact ⟨⟨g1, by omega, g3, by omega⟩, g5⟩
    · rintro _ ⟨rs, ls, ms, s3, s4, s5, rfl, h1, h2, h3, h4⟩
      simp [Fo.start, ownAt_eq, bindT_name, parS_cons, ownS_list, ownS_dict, isLst, Tg.slots, wipeR, backR, occ, isOwn, pkI_var, evE_lc]
      exact ⟨_, _, _, rfl, rs, ls, ms, by simp, h1, h2, h3, h4⟩
    · exact ⟨rs, [], ms, _, _, _, by simp; exact ⟨rfl, rfl, rfl⟩, hp, by simp, by omega, rfl⟩
  · exact ⟨⟨rs, ms, _, _, _, rfl, fun r hr => ⟨⟨(hg r hr).1.1, by have := (hg r hr).1.2.1; omega, (hg r hr).1.2.2.1, by have := (hg r hr).1.2.2.2; omega⟩, (hg r hr).2⟩, by omega⟩, hp⟩
end Lk

set_option Elab.async false
set_option linter.all false
set_option maxRecDepth 100000
set_option maxHeartbeats 2000000
/-! QA: lengths and ratios; the small defs of courses.py. -/
namespace Lk
open PySem Fo
abbrev Ln := Int × Int
def plusL (a b : Ln) : Ln := (a.1 + b.1, a.2 + b.2)
def minusL (a b : Ln) : Ln := (a.1 - b.1, a.2 - b.2)
def twiceL (a : Ln) : Ln := (2 * a.1, 2 * a.2)
def sharedL (a : Ln) (k : Int) : Ln := (a.1.fdiv k, a.2.fdiv k)
def worthL (l r : Ln) : Int := l.1 * r.1 + l.2 * r.2
def lowL (t b : Int) : Ln := (t / (Int.gcd t b : Nat), b / (Int.gcd t b : Nat))
def rootL (l : Ln) : Option Ln := if l.1 * l.2 < 0 then some (lowL l.2.natAbs l.1.natAbs) else none
def lessR (a b : Ln) : Bool := decide (a.1 * b.2 < b.1 * a.2)
def rootIn (lo hi l : Ln) : Option Ln := match rootL l with
  | some r => if lessR lo r = true ∧ lessR r hi = true then some r else none
  | none => none
def innerR (lo hi : Ln) : Ln := if lo = hi then lo else lowL (lo.1 + hi.1) (lo.2 + hi.2)
def sgn (i : Int) : Int := (if 0 < i then 1 else 0) - (if i < 0 then 1 else 0)
def signIn (lo hi l : Ln) : Int := sgn (worthL l (innerR lo hi))
def optL : Option Ln → PyData
  | none => .none
  | some l => encR l
/-- so great at most -/
def LB (m : Int) (l : Ln) : Prop := -m ≤ l.1 ∧ l.1 ≤ m ∧ -m ≤ l.2 ∧ l.2 ≤ m
def M0 : Int := 1000000000000000000
theorem encR_eq (l : Ln) : encR l = .tuple [.int l.1, .int l.2] := rfl
theorem LB.mono {m n : Int} {l : Ln} (h : LB m l) (hn : m ≤ n) : LB n l := by unfold LB at *; omega
theorem r_lowest2 (n : Nat) (t b : Int) (hb : 0 < b) (h : b < 1000000000000000000000000000000000000000000000000000000000000) : callF Q (n + 2) 31 [.int t, .int b] = .ok (encR (lowL t b), []) := by
  rw [callQ (F := F31) rfl rfl]
  have g1 := gcd_pos (t := t) hb
  have g2 := gcd_le (t := t) hb
  have e := r_divisor n t b (natAbs_turns (Int.lt_trans (by decide) hb) h)
  have big : (1000000000000000000000000000000000000000000000000000000000000 : Int) < 2 ^ 4000 := by decide +kernel
  have hd : ∀ x, divOk x (Int.gcd t b : Nat) = true := fun x => divOk_p g1 (Int.lt_of_le_of_lt g2 (Int.lt_trans h big))
  have fd : ∀ x : Int, x.fdiv (Int.gcd t b : Nat) = x / (Int.gcd t b : Nat) := fun x => Int.fdiv_eq_ediv_of_nonneg x (Int.le_of_lt g1)
  simp [F31, Fo.start, ownAt_eq, bindT_name, parS_cons, ownS_list, ownS_dict, isLst, Tg.slots, wipeR, backR, occ, isOwn, pkI_var, evE_lc, e, hd, fd, encR, lowL]
theorem r_plus (n : Nat) (a b : Ln) : callF Q (n + 1) 34 [encR a, encR b] = .ok (encR (plusL a b), []) := by
  rw [callQ (F := F34) rfl rfl]
  simp [F34, Fo.start, ownAt_eq, bindT_name, parS_cons, ownS_list, ownS_dict, isLst, Tg.slots, wipeR, backR, occ, isOwn, pkI_var, evE_lc, encR, plusL]
theorem r_minus (n : Nat) (a b : Ln) : callF Q (n + 1) 35 [encR a, encR b] = .ok (encR (minusL a b), []) := by
  rw [callQ (F := F35) rfl rfl]
  simp [F35, Fo.start, ownAt_eq, bindT_name, parS_cons, ownS_list, ownS_dict, isLst, Tg.slots, wipeR, backR, occ, isOwn, pkI_var, evE_lc, encR, minusL]
theorem r_shared (n : Nat) (a : Ln) (k : Int) (hk : k = 2 ∨ k = 3) : callF Q (n + 1) 36 [encR a, .int k] = .ok (encR (sharedL a k), []) := by
  rw [callQ (F := F36) rfl rfl]
  have hd : ∀ x, divOk x k = true := fun x => divOk_s (by omega) (by omega) (by omega)
  simp [F36, Fo.start, ownAt_eq, bindT_name, parS_cons, ownS_list, ownS_dict, isLst, Tg.slots, wipeR, backR, occ, isOwn, pkI_var, evE_lc, encR, sharedL, hd]
theorem r_twice (n : Nat) (a : Ln) : callF Q (n + 1) 37 [encR a] = .ok (encR (twiceL a), []) := by
  rw [callQ (F := F37) rfl rfl]
  have m1 : ∀ x, mulOk 2 x = true := fun x => mulOk_l (by decide) (by decide)
  simp [F37, Fo.start, ownAt_eq, bindT_name, parS_cons, ownS_list, ownS_dict, isLst, Tg.slots, wipeR, backR, occ, isOwn, pkI_var, evE_lc, encR, twiceL, m1]
theorem mulOk_LB {m : Int} {l : Ln} (h : LB m l) (hm : m ≤ M0) : (∀ x, mulOk l.1 x = true) ∧ (∀ x, mulOk l.2 x = true) ∧ (∀ x, mulOk x l.1 = true) ∧ (∀ x, mulOk x l.2 = true) := by
  unfold LB at h
  unfold M0 at hm
  exact ⟨fun x => mulOk_l (by omega) (by omega), fun x => mulOk_l (by omega) (by omega), fun x => mulOk_r (by omega) (by omega), fun x => mulOk_r (by omega) (by omega)⟩
theorem r_worth (n : Nat) (l r : Ln) (h : LB M0 l) : callF Q (n + 1) 38 [encR l, encR r] = .ok (.int (worthL l r), []) := by
  rw [callQ (F := F38) rfl rfl]
  obtain ⟨m1, m2, _, _⟩ := mulOk_LB h (Int.le_refl _)
  simp [F38, Fo.start, ownAt_eq, bindT_name, parS_cons, ownS_list, ownS_dict, isLst, Tg.slots, wipeR, backR, occ, isOwn, pkI_var, evE_lc, encR, worthL, m1, m2]
theorem r_root (n : Nat) (l : Ln) (h : LB M0 l) : callF Q (n + 3) 39 [encR l] = .ok (optL (rootL l), []) := by
  rw [callQ (F := F39) rfl rfl]
  obtain ⟨m1, _, _, _⟩ := mulOk_LB h (Int.le_refl _)
  unfold LB M0 at h
  by_cases hz : l.1 * l.2 < 0
  · have h1 : l.1 ≠ 0 := by rintro e; rw [e] at hz; simp at hz
    have h2 : l.2 ≠ 0 := by rintro e; rw [e] at hz; simp at hz
    have e := r_lowest2 n (l.2.natAbs : Int) (l.1.natAbs : Int) (by omega) (by omega)
    simp [F39, Fo.start, ownAt_eq, bindT_name, parS_cons, ownS_list, ownS_dict, isLst, Tg.slots, wipeR, backR, occ, isOwn, pkI_var, evE_lc, encR_eq, m1, hz, e, optL, rootL]
  · simp [F39, Fo.start, ownAt_eq, bindT_name, parS_cons, ownS_list, ownS_dict, isLst, Tg.slots, wipeR, backR, occ, isOwn, pkI_var, evE_lc, encR_eq, m1, hz, optL, rootL]
theorem r_less (n : Nat) (a b : Ln) (h : LB M0 a ∨ LB M0 b) : callF Q (n + 1) 40 [encR a, encR b] = .ok (.bool (lessR a b), []) := by
  rw [callQ (F := F40) rfl rfl]
  have hm : mulOk a.1 b.2 = true ∧ mulOk b.1 a.2 = true := by
    rcases h with h | h
    · obtain ⟨m1, m2, m3, m4⟩ := mulOk_LB h (Int.le_refl _)
      exact ⟨m1 _, m4 _⟩
    · obtain ⟨m1, m2, m3, m4⟩ := mulOk_LB h (Int.le_refl _)
      exact ⟨m4 _, m1 _⟩
  simp [F40, Fo.start, ownAt_eq, bindT_name, parS_cons, ownS_list, ownS_dict, isLst, Tg.slots, wipeR, backR, occ, isOwn, pkI_var, evE_lc, encR, lessR, hm.1, hm.2]
theorem lowL_LB {t b m : Int} (ht : 0 ≤ t) (hb : 0 < b) (h1 : t ≤ m) (h2 : b ≤ m) : LB m (lowL t b) := by
  have g1 := gcd_pos (t := t) hb
  have a1 : 0 ≤ t / (Int.gcd t b : Nat) := Int.ediv_nonneg ht (by omega)
  have a2 : 0 ≤ b / (Int.gcd t b : Nat) := Int.ediv_nonneg (by omega) (by omega)
  have a3 : t / (Int.gcd t b : Nat) ≤ t := Int.ediv_le_self _ ht
  have a4 : b / (Int.gcd t b : Nat) ≤ b := Int.ediv_le_self _ (by omega)
  exact ⟨by show -m ≤ t / _; omega, by show t / _ ≤ m; omega, by show -m ≤ b / _; omega, by show b / _ ≤ m; omega⟩
theorem rootL_LB {l r : Ln} {m : Int} (h : LB m l) (e : rootL l = some r) : LB m r := by
  unfold rootL at e
  split at e
  · rename_i hz
    cases e
    have h1 : l.1 ≠ 0 := by rintro e; rw [e] at hz; simp at hz
    unfold LB at h
    exact lowL_LB (by omega) (by omega) (by omega) (by omega)
  · cases e
abbrev Lne := Kd × Ln
def encLine (l : Lne) : PyData := .tuple [l.1.d, encR l.2]
def encO : Option Lne → PyData
  | none => .none
  | some l => encLine l
abbrev Pce := Ln × Ln × List (Option Lne)
def encP (p : Pce) : PyData := .tuple [encR p.1, encR p.2.1, .tuple (p.2.2.map encO)]
theorem optL_some (l : Ln) : optL (some l) = encR l := rfl
theorem isN_R (neg : Bool) (l : Ln) : isNb neg (encR l) = neg := rfl
theorem isN_L (neg : Bool) (l : Lne) : isNb neg (encLine l) = neg := rfl
theorem r_root_in (n : Nat) (p : Pce) (l : Ln) (h : LB M0 l) : callF Q (n + 4) 41 [encP p, encR l] = .ok (optL (rootIn p.1 p.2.1 l), []) := by
  rw [callQ (F := F41) rfl rfl]
  have e := r_root n l h
  cases hr : rootL l with
  | none =>
    rw [hr] at e
    simp [F41, Fo.start, ownAt_eq, bindT_name, parS_cons, ownS_list, ownS_dict, isLst, Tg.slots, wipeR, backR, occ, isOwn, pkI_var, evE_lc, e, optL, rootIn, hr]
  | some r =>
    rw [hr, optL_some] at e
    have hb := rootL_LB h hr
    have e1 := r_less (n + 2) p.1 r (.inr hb)
    have e2 := r_less (n + 2) r p.2.1 (.inl hb)
    by_cases l1 : lessR p.1 r = true
    · by_cases l2 : lessR r p.2.1 = true
      · simp [F41, Fo.start, ownAt_eq, bindT_name, parS_cons, ownS_list, ownS_dict, isLst, Tg.slots, wipeR, backR, occ, isOwn, pkI_var, evE_lc, e, encP, isN_R, e1, e2, l1, l2, optL, rootIn, hr]
      · simp [F41, Fo.start, ownAt_eq, bindT_name, parS_cons, ownS_list, ownS_dict, isLst, Tg.slots, wipeR, backR, occ, isOwn, pkI_var, evE_lc, e, encP, isN_R, e1, e2, l1, l2, optL, rootIn, hr]
    · simp [F41, Fo.start, ownAt_eq, bindT_name, parS_cons, ownS_list, ownS_dict, isLst, Tg.slots, wipeR, backR, occ, isOwn, pkI_var, evE_lc, e, encP, isN_R, e1, l1, optL, rootIn, hr]
/-- an end of a piece: not below 0, not both 0 -/
def EndR (m : Int) (r : Ln) : Prop := 0 ≤ r.1 ∧ r.1 ≤ m ∧ 0 ≤ r.2 ∧ r.2 ≤ m
theorem r_inner (n : Nat) (p : Pce) (h1 : EndR M0 p.1) (h2 : EndR M0 p.2.1) (hp : p.1 ≠ p.2.1 → 0 < p.1.2 + p.2.1.2) : callF Q (n + 3) 42 [encP p] = .ok (encR (innerR p.1 p.2.1), []) := by
  rw [callQ (F := F42) rfl rfl]
  unfold EndR M0 at h1 h2
  by_cases he : p.1 = p.2.1
  · simp [F42, Fo.start, ownAt_eq, bindT_name, parS_cons, ownS_list, ownS_dict, isLst, Tg.slots, wipeR, backR, occ, isOwn, pkI_var, evE_lc, encP, eqv_R, eqOk_R, he, innerR]
  · have e := r_lowest2 n (p.1.1 + p.2.1.1) (p.1.2 + p.2.1.2) (hp he) (by omega)
    have a1 : encR p.1 = .tuple [.int p.1.1, .int p.1.2] := rfl
    have a2 : encR p.2.1 = .tuple [.int p.2.1.1, .int p.2.1.2] := rfl
    have he' : ¬ (p.1 = p.2.1) := he
    simp [F42, Fo.start, ownAt_eq, bindT_name, parS_cons, ownS_list, ownS_dict, isLst, Tg.slots, wipeR, backR, occ, isOwn, pkI_var, evE_lc, encP, eqv_R, eqOk_R, he', innerR, e]
    simp [Fo.start, ownAt_eq, bindT_name, parS_cons, ownS_list, ownS_dict, isLst, Tg.slots, wipeR, backR, occ, isOwn, pkI_var, evE_lc, a1, a2, e]
theorem r_sign_in (n : Nat) (p : Pce) (l : Ln) (h1 : EndR M0 p.1) (h2 : EndR M0 p.2.1) (hp : p.1 ≠ p.2.1 → 0 < p.1.2 + p.2.1.2) (h : LB M0 l) : callF Q (n + 4) 43 [encP p, encR l] = .ok (.int (signIn p.1 p.2.1 l), []) := by
  rw [callQ (F := F43) rfl rfl]
  have e1 := r_inner n p h1 h2 hp
  have e2 := r_worth (n + 2) l (innerR p.1 p.2.1) h
  simp [F43, Fo.start, ownAt_eq, bindT_name, parS_cons, ownS_list, ownS_dict, isLst, Tg.slots, wipeR, backR, occ, isOwn, pkI_var, evE_lc, e1, e2, signIn, sgn]
def cutAt (p : Pce) (r : Ln) : List Pce := [(p.1, r, p.2.2), (r, r, p.2.2), (r, p.2.1, p.2.2)]
theorem r_cut_at (n : Nat) (p : Pce) (r : Ln) : callF Q (n + 1) 44 [encP p, encR r] = .ok (.list ((cutAt p r).map encP), []) := by
  rw [callQ (F := F44) rfl rfl]
  simp [F44, Fo.start, ownAt_eq, bindT_name, parS_cons, ownS_list, ownS_dict, isLst, Tg.slots, wipeR, backR, occ, isOwn, pkI_var, evE_lc, encP, cutAt]
def firstRoot (lo hi : Ln) : List Ln → Option Ln
  | [] => none
  | l :: r => match rootIn lo hi l with
    | some x => some x
    | none => firstRoot lo hi r
theorem r_first_root (n : Nat) (p : Pce) (ls : List Ln) (h : ∀ l ∈ ls, LB M0 l) : callF Q (n + 5) 45 [encP p, .list (ls.map encR)] = .ok (optL (firstRoot p.1 p.2.1 ls), []) := by
  refine ok_of ?_
  rw [callQ (F := F45) rfl rfl]
  refine wp_fin ?_
  simp [F45, Fo.start, ownAt_eq, bindT_name, parS_cons, ownS_list, ownS_dict, isLst, Tg.slots, wipeR, backR, occ, isOwn, pkI_var, evE_lc]
  refine wp_seq (wp_goM (fun (ys : List Ln) ρ => ∃ s2 s3, ρ = [.val (encP p), .val (.list (ls.map encR)), s2, s3] ∧ firstRoot p.1 p.2.1 ls = firstRoot p.1 p.2.1 ys ∧ ∀ y ∈ ys, LB M0 y) ?_ ?_ ?_)
  · rintro l ys _ ⟨s2, s3, rfl, e, hy⟩
    have e1 := r_root_in n p l (hy l (.head _))
    cases hr : rootIn p.1 p.2.1 l with
    | none =>
      rw [hr] at e1
      simp [Fo.start, ownAt_eq, bindT_name, parS_cons, ownS_list, ownS_dict, isLst, Tg.slots, wipeR, backR, occ, isOwn, pkI_var, evE_lc, e1, optL]
      have e : firstRoot p.1 p.2.1 ls = firstRoot p.1 p.2.1 ys := by rw [e]; simp [firstRoot, hr]
      exact ⟨e, fun y1 y2 hh => hy (y1, y2) (.tail _ hh)⟩
    | some x =>
      rw [hr, optL_some] at e1
      simp [Fo.start, ownAt_eq, bindT_name, parS_cons, ownS_list, ownS_dict, isLst, Tg.slots, wipeR, backR, occ, isOwn, pkI_var, evE_lc, e1, isN_R]
      have e : firstRoot p.1 p.2.1 ls = some x := by rw [e]; simp [firstRoot, hr]
      rw [e]; rfl
  · rintro _ ⟨s2, s3, rfl, e, _⟩
    simp [Fo.start, ownAt_eq, bindT_name, parS_cons, ownS_list, ownS_dict, isLst, Tg.slots, wipeR, backR, occ, isOwn, pkI_var, evE_lc]
    rw [e]; rfl
  · exact ⟨_, _, rfl, rfl, h⟩
end Lk

set_option Elab.async false
set_option linter.all false
set_option maxRecDepth 100000
set_option maxHeartbeats 2000000
/-! QB: crossing, images, what a step asks. -/
namespace Lk
open PySem Fo
def crossL : Kd → Ln → Kd → Ln → Ln × Ln
  | .P, p, .D, d => (sharedL (plusL d p) 2, sharedL (minusL d p) 2)
  | .D, d, .P, p => (sharedL (plusL d p) 2, sharedL (minusL d p) 2)
  | .U, x, .L, y => (x, y)
  | .L, y, .U, x => (x, y)
  | .U, x, .P, p => (x, minusL x p)
  | .P, p, .U, x => (x, minusL x p)
  | .U, x, .D, d => (x, minusL d x)
  | .D, d, .U, x => (x, minusL d x)
  | .L, y, .P, p => (plusL p y, y)
  | .P, p, .L, y => (plusL p y, y)
  | .L, y, .D, d => (minusL d y, y)
  | .D, d, .L, y => (minusL d y, y)
  | _, x, _, y => (x, y)
def encPt (p : Ln × Ln) : PyData := .tuple [encR p.1, encR p.2]
theorem r_crossing (n : Nat) (a b : Lne) (h : a.1 ≠ b.1) : callF Q (n + 2) 46 [encLine a, encLine b] = .ok (encPt (crossL a.1 a.2 b.1 b.2), []) := by
  obtain ⟨k1, p1⟩ := a
  obtain ⟨k2, p2⟩ := b
  rw [callQ (F := F46) rfl rfl]
  cases k1 <;> cases k2 <;> first
    | exact absurd rfl h
    | simp [F46, Fo.start, ownAt_eq, bindT_name, parS_cons, ownS_list, ownS_dict, isLst, Tg.slots, wipeR, backR, occ, isOwn, pkI_var, evE_lc, encLine, goL, Kd.d, mkDict, ofOpt, putDl, putS, lookS, isStr, r_plus, r_minus, r_shared, encPt, crossL, line]
def pickK {α : Type} (a b c d : α) : Kd → α
  | .U => a | .L => b | .P => c | .D => d
theorem mk4 (a b c d : PyData) : mkDict ["upright", "level", "up", "down"] [a, b, c, d] = some [(.str "upright", a), (.str "level", b), (.str "up", c), (.str "down", d)] := by
  simp [mkDict, putS]
theorem kDix4 (a b c d : PyData) (ρ : Rho) (C : Fo.Ctx) (k : Ex) : kDix (.ok ([a, b, c, d], ρ)) C ["upright", "level", "up", "down"] k = kDix2 (evE C k ρ) (some [(.str "upright", a), (.str "level", b), (.str "up", c), (.str "down", d)]) := kDix_ok _ _ _ _ _ (mk4 a b c d)
theorem look4 (a b c d : PyData) (k : Kd) : lookS [(.str "upright", a), (.str "level", b), (.str "up", c), (.str "down", d)] k.d = some (pickK a b c d k) := by
  cases k <;> simp [lookS, Kd.d, pickK]
theorem lookO4 (a b c d : PyData) (k : Kd) : lookO (some [(.str "upright", a), (.str "level", b), (.str "up", c), (.str "down", d)]) k.d = some (pickK a b c d k) := by
  have := look4 a b c d k
  unfold lookO
  simp [this]
  unfold Kd.d isStr
  simp
theorem pick_map {α β : Type} (f : α → β) (a b c d : α) (k : Kd) : pickK (f a) (f b) (f c) (f d) k = f (pickK a b c d k) := by cases k <;> rfl
def throughL (p : Ln × Ln) (k : Kd) : Lne := (k, pickK p.1 p.2 (minusL p.1 p.2) (plusL p.1 p.2) k)
theorem r_through (n : Nat) (p : Ln × Ln) (k : Kd) : callF Q (n + 2) 47 [encPt p, k.d] = .ok (encLine (throughL p k), []) := by
  rw [callQ (F := F47) rfl rfl]
  simp [F47, Fo.start, ownAt_eq, bindT_name, parS_cons, ownS_list, ownS_dict, isLst, Tg.slots, wipeR, backR, occ, isOwn, pkI_var, evE_lc, encPt, r_plus, r_minus, kDix4, lookO4, pick_map, encLine, throughL]
def imageL (a b : Lne) : Lne := match a.1, b.1 with
  | .U, .U | .L, .L | .P, .P | .D, .D => (a.1, minusL (twiceL b.2) a.2)
  | .U, .L | .L, .U | .P, .D | .D, .P => a
  | .P, .U => (.D, minusL (twiceL b.2) a.2)
  | .D, .U => (.P, minusL (twiceL b.2) a.2)
  | .P, .L => (.D, plusL a.2 (twiceL b.2))
  | .D, .L => (.P, minusL a.2 (twiceL b.2))
  | .U, .P => (.L, minusL a.2 b.2)
  | .L, .P => (.U, plusL a.2 b.2)
  | .U, .D => (.L, minusL b.2 a.2)
  | .L, .D => (.U, minusL b.2 a.2)
theorem r_image_of (n : Nat) (a b : Lne) : callF Q (n + 2) 48 [encLine a, encLine b] = .ok (encLine (imageL a b), []) := by
  obtain ⟨k1, p1⟩ := a
  obtain ⟨k2, p2⟩ := b
  rw [callQ (F := F48) rfl rfl]
  cases k1 <;> cases k2 <;> simp [F48, Fo.start, ownAt_eq, bindT_name, parS_cons, ownS_list, ownS_dict, isLst, Tg.slots, wipeR, backR, occ, isOwn, pkI_var, evE_lc, inOk, SeqAt.shaped, PyData.canLay0, PyData.canLayAll0, PyData.depth, PyData.depthAll, encLine, Kd.d, r_plus, r_minus, r_twice, imageL]
def WID : Ln := (46656, 0)
def HEI : Ln := (0, 46656)
def NON : Ln := (0, 0)
theorem q4 : Q.glb 4 = some (encR WID) := rfl
theorem q5 : Q.glb 5 = some (encR HEI) := rfl
theorem q6 : Q.glb 6 = some (encR NON) := rfl
def insideL (l : Lne) : List Ln := [minusL l.2 (pickK NON NON (minusL NON HEI) NON l.1), minusL (pickK WID HEI WID (plusL WID HEI) l.1) l.2]
def tup2 (p : Ln × Ln) : PyData := .tuple [encR p.1, encR p.2]
theorem r_inside (n : Nat) (l : Lne) : callF Q (n + 2) 49 [encLine l] = .ok (.list ((insideL l).map encR), []) := by
  obtain ⟨k, p⟩ := l
  rw [callQ (F := F49) rfl rfl]
  have e := fun a b c d : Ln × Ln => pick_map tup2 a b c d k
  simp only [tup2] at e
  simp [F49, Fo.start, ownAt_eq, bindT_name, parS_cons, ownS_list, ownS_dict, isLst, Tg.slots, wipeR, backR, occ, isOwn, pkI_var, evE_lc, encLine, q4, q5, q6, r_plus, r_minus, kDix4, lookO4, e, insideL]
  cases k <;> simp [Fo.start, ownAt_eq, bindT_name, parS_cons, ownS_list, ownS_dict, isLst, Tg.slots, wipeR, backR, occ, isOwn, pkI_var, evE_lc, pickK, r_minus]
abbrev Ask := Lne × List Ln × List Ln × List Ln
def encAsk (a : Ask) : PyData := .tuple [encLine a.1, .list (a.2.1.map encR), .list (a.2.2.1.map encR), .list (a.2.2.2.map encR)]
def askL (s : St) (a b : Lne) : Ask := match s with
  | .thr _ _ k =>
    let p := crossL a.1 a.2 b.1 b.2
    let l := throughL p k
    (l, [], [p.1, minusL WID p.1, p.2, minusL HEI p.2], insideL l)
  | .mir _ _ => let l := imageL a b; (l, [], [], insideL l)
  | .mid _ _ => let g := minusL b.2 a.2; let l := (a.1, plusL a.2 (sharedL g 2)); (l, [g], [], insideL l)
  | .thd _ _ => let g := minusL b.2 a.2; let l := (a.1, plusL a.2 (sharedL g 3)); (l, [g], [], insideL l)
def stOk (s : St) (a b : Lne) : Prop := match s with
  | .thr _ _ _ => a.1 ≠ b.1
  | .mir _ _ => True
  | _ => a.1 = b.1
theorem r_asked (n : Nat) (s : St) (a b : Lne) (h : stOk s a b) : callF Q (n + 3) 50 [s.enc, encLine a, encLine b] = .ok (encAsk (askL s a b), []) := by
  rw [callQ (F := F50) rfl rfl]
  have el : ∀ l : Lne, encLine l = .tuple [l.1.d, encR l.2] := fun _ => rfl
  cases s with
  | thr i j k =>
    have e1 := r_crossing n a b h
    have e2 := r_through n (crossL a.1 a.2 b.1 b.2) k
    have e3 := r_inside n (throughL (crossL a.1 a.2 b.1 b.2) k)
    have ep : ∀ p, encPt p = .tuple [encR p.1, encR p.2] := fun _ => rfl
    simp [F50, Fo.start, ownAt_eq, bindT_name, parS_cons, ownS_list, ownS_dict, isLst, Tg.slots, wipeR, backR, occ, isOwn, pkI_var, evE_lc, St.enc, e1, e2]
    simp [Fo.start, ownAt_eq, bindT_name, parS_cons, ownS_list, ownS_dict, isLst, Tg.slots, wipeR, backR, occ, isOwn, pkI_var, evE_lc, ep, e3, q4, q5, r_minus, encAsk, askL]
  | mir i j =>
    have e1 := r_image_of n a b
    have e3 := r_inside n (imageL a b)
    simp [F50, Fo.start, ownAt_eq, bindT_name, parS_cons, ownS_list, ownS_dict, isLst, Tg.slots, wipeR, backR, occ, isOwn, pkI_var, evE_lc, St.enc, e1, e3, encAsk, askL]
  | mid i j =>
    have e3 := r_inside n (a.1, plusL a.2 (sharedL (minusL b.2 a.2) 2))
    rw [el] at e3
    simp [F50, Fo.start, ownAt_eq, bindT_name, parS_cons, ownS_list, ownS_dict, isLst, Tg.slots, wipeR, backR, occ, isOwn, pkI_var, evE_lc, St.enc, el, r_minus, r_plus, r_shared, e3, encAsk, askL]
  | thd i j =>
    have e3 := r_inside n (a.1, plusL a.2 (sharedL (minusL b.2 a.2) 3))
    rw [el] at e3
    simp [F50, Fo.start, ownAt_eq, bindT_name, parS_cons, ownS_list, ownS_dict, isLst, Tg.slots, wipeR, backR, occ, isOwn, pkI_var, evE_lc, St.enc, el, r_minus, r_plus, r_shared, e3, encAsk, askL]
end Lk

set_option Elab.async false
set_option linter.all false
set_option maxRecDepth 100000
set_option maxHeartbeats 4000000
/-! QC: advanced. -/
namespace Lk
open PySem Fo
def rootCnt (lo hi : Ln) (ls : List Ln) : Nat := (ls.filter fun l => (rootIn lo hi l).isSome).length
def askAll (a : Ask) : List Ln := a.2.1 ++ a.2.2.1 ++ a.2.2.2
def goodA (lo hi : Ln) (a : Ask) : Bool := (a.2.1.all fun l => !decide (signIn lo hi l = 0)) && (a.2.2.1.all fun l => decide (0 ≤ signIn lo hi l)) && (a.2.2.2.all fun l => decide (0 < signIn lo hi l))
def St.one : St → Nat
  | .mid a _ | .thd a _ | .thr a _ _ | .mir a _ => a
def St.two : St → Nat
  | .mid _ b | .thd _ b | .thr _ b _ | .mir _ b => b
def lnAt (ls : List (Option Lne)) (i : Nat) : Option Lne := (ls[i]?).getD none
def advL : Nat → Pce → St → List Pce
  | 0, _, _ => []
  | f + 1, p, s => match lnAt p.2.2 s.one, lnAt p.2.2 s.two with
    | some a, some b => match firstRoot p.1 p.2.1 (askAll (askL s a b)) with
      | some r => (cutAt p r).flatMap fun q => advL f q s
      | none => [(p.1, p.2.1, p.2.2 ++ [if goodA p.1 p.2.1 (askL s a b) = true then some (askL s a b).1 else none])]
    | _, _ => [(p.1, p.2.1, p.2.2 ++ [none])]
theorem advL_succ (f : Nat) (p : Pce) (s : St) : advL (f + 1) p s = match lnAt p.2.2 s.one, lnAt p.2.2 s.two with
    | some a, some b => match firstRoot p.1 p.2.1 (askAll (askL s a b)) with
      | some r => (cutAt p r).flatMap fun q => advL f q s
      | none => [(p.1, p.2.1, p.2.2 ++ [if goodA p.1 p.2.1 (askL s a b) = true then some (askL s a b).1 else none])]
    | _, _ => [(p.1, p.2.1, p.2.2 ++ [none])] := rfl
theorem advL_len : ∀ (f : Nat) (p : Pce) (s : St), (advL f p s).length ≤ 3 ^ f
  | 0, p, s => by simp [advL]
  | f + 1, p, s => by
    have one : 1 ≤ 3 ^ (f + 1) := Nat.one_le_pow _ _ (by decide)
    unfold advL
    split
    · split
      · rename_i r _
        have h1 := advL_len f (p.1, r, p.2.2) s
        have h2 := advL_len f (r, r, p.2.2) s
        have h3 := advL_len f (r, p.2.1, p.2.2) s
        simp only [cutAt, List.flatMap_cons, List.flatMap_nil, List.length_append, List.length_nil]
        omega
      · simpa using one
    · simpa using one
/-- a piece's ends -/
structure PieceOk (lo hi : Ln) : Prop where
  l1 : 0 ≤ lo.1
  l2 : 0 < lo.2
  h1 : 0 < hi.1
  h2 : 0 ≤ hi.2
  b1 : lo.1 ≤ M0
  b2 : lo.2 ≤ M0
  b3 : hi.1 ≤ M0
  b4 : hi.2 ≤ M0
  lt : lessR lo hi = true ∨ lo = hi
  g1 : Int.gcd lo.1 lo.2 = 1
  g2 : Int.gcd hi.1 hi.2 = 1
theorem lowL_red {t b : Int} (ht : 0 < t) (hb : 0 < b) : Int.gcd (lowL t b).1 (lowL t b).2 = 1 := by
  obtain ⟨x, y, e, h1, h2, h3, h4, h5, _⟩ := lowP_ok ht hb
  unfold lowP at e
  injection e with e
  injection e with e1 e
  injection e1 with e1
  injection e with e2 e
  injection e2 with e2
  unfold lowL
  show Int.gcd (t / _) (b / _) = 1
  rw [e1, e2]
  exact h5
theorem rootL_red {l r : Ln} (e : rootL l = some r) : Int.gcd r.1 r.2 = 1 := by
  unfold rootL at e
  split at e
  · rename_i hz
    cases e
    have h1 : l.1 ≠ 0 := by rintro e; rw [e] at hz; simp at hz
    have h2 : l.2 ≠ 0 := by rintro e; rw [e] at hz; simp at hz
    exact lowL_red (by omega) (by omega)
  · cases e
theorem lessR_irr (a : Ln) : lessR a a = false := by simp [lessR]
theorem lessR_iff (a b : Ln) : lessR a b = true ↔ a.1 * b.2 < b.1 * a.2 := by simp [lessR]
theorem lessR_trans {a b c : Ln} (ha : 0 < a.2) (hb : 0 < b.2) (hc : 0 ≤ c.2) (h1 : lessR a b = true) (h2 : lessR b c = true) : lessR a c = true := by
  rw [lessR_iff] at *
  obtain ⟨a1, a2⟩ := a
  obtain ⟨b1, b2⟩ := b
  obtain ⟨c1, c2⟩ := c
  simp only at *
  have e1 : a1 * b2 * c2 ≤ b1 * a2 * c2 := Int.mul_le_mul_of_nonneg_right (by omega) hc
  have e2 : b1 * c2 * a2 < c1 * b2 * a2 := Int.mul_lt_mul_of_pos_right h2 ha
  have e3 : b2 * (a1 * c2) < b2 * (c1 * a2) := by
    have i1 : a1 * b2 * c2 = b2 * (a1 * c2) := by rw [Int.mul_comm a1 b2, Int.mul_assoc]
    have i2 : b1 * a2 * c2 = b1 * c2 * a2 := by rw [Int.mul_assoc, Int.mul_comm a2 c2, ← Int.mul_assoc]
    have i3 : c1 * b2 * a2 = b2 * (c1 * a2) := by rw [Int.mul_comm c1 b2, Int.mul_assoc]
    omega
  exact Int.lt_of_mul_lt_mul_left e3 (by omega)
theorem lowL_pos {t b : Int} (ht : 0 < t) (hb : 0 < b) : 0 < (lowL t b).1 ∧ 0 < (lowL t b).2 := by
  obtain ⟨x, y, e, h1, h2, h3, h4, _⟩ := lowP_ok ht hb
  unfold lowP at e
  injection e with e
  injection e with e1 e
  injection e1 with e1
  injection e with e2 e
  injection e2 with e2
  unfold lowL
  exact ⟨by show 0 < t / _; omega, by show 0 < b / _; omega⟩
theorem rootL_pos {l r : Ln} (e : rootL l = some r) : 0 < r.1 ∧ 0 < r.2 := by
  unfold rootL at e
  split at e
  · rename_i hz
    cases e
    have h1 : l.1 ≠ 0 := by rintro e; rw [e] at hz; simp at hz
    have h2 : l.2 ≠ 0 := by rintro e; rw [e] at hz; simp at hz
    exact lowL_pos (by omega) (by omega)
  · cases e
theorem rootIn_some {lo hi l r : Ln} (h : rootIn lo hi l = some r) : rootL l = some r ∧ lessR lo r = true ∧ lessR r hi = true := by
  unfold rootIn at h
  split at h
  · rename_i r' e
    split at h
    · rename_i c; cases h; exact ⟨e, c.1, c.2⟩
    · cases h
  · cases h
theorem firstRoot_some {lo hi r : Ln} : ∀ {ls : List Ln}, firstRoot lo hi ls = some r → ∃ l ∈ ls, rootIn lo hi l = some r
  | l :: ls, h => by
    unfold firstRoot at h
    split at h
    · rename_i x e; cases h; exact ⟨l, .head _, e⟩
    · obtain ⟨l', h1, h2⟩ := firstRoot_some h
      exact ⟨l', .tail _ h1, h2⟩
theorem firstRoot_none {lo hi : Ln} : ∀ {ls : List Ln}, firstRoot lo hi ls = none → ∀ l ∈ ls, rootIn lo hi l = none
  | l :: ls, h, x, hx => by
    unfold firstRoot at h
    split at h
    · cases h
    · rename_i e
      rcases List.mem_cons.mp hx with rfl | hx
      · exact e
      · exact firstRoot_none h x hx
theorem rootIn_point (r l : Ln) (hr : 0 < r.2) : rootIn r r l = none := by
  cases e : rootIn r r l with
  | none => rfl
  | some x =>
    obtain ⟨h1, h2, h3⟩ := rootIn_some e
    have hx := rootL_pos h1
    have := lessR_trans hr hx.2 (by omega) h2 h3
    rw [lessR_irr] at this
    cases this
theorem cnt_le {p q : Ln → Bool} : ∀ {ls : List Ln}, (∀ l, p l = true → q l = true) → (ls.filter p).length ≤ (ls.filter q).length
  | [], h => by simp
  | x :: r, h => by
    have ih := cnt_le (ls := r) h
    cases hp : p x with
    | true => simp [hp, h x hp]; exact ih
    | false => cases hq : q x <;> simp [hp, hq] <;> omega
theorem cnt_lt {p q : Ln → Bool} : ∀ {ls : List Ln} {l : Ln}, (∀ l, p l = true → q l = true) → l ∈ ls → p l = false → q l = true → (ls.filter p).length < (ls.filter q).length
  | x :: r, l, h, hl, h1, h2 => by
    rcases List.mem_cons.mp hl with rfl | hl
    · have := cnt_le (ls := r) h
      simp [h1, h2]; omega
    · have ih := cnt_lt h hl h1 h2
      cases hp : p x with
      | true => simp [hp, h x hp]; exact ih
      | false => cases hq : q x <;> simp [hp, hq] <;> omega
theorem cut_ok {lo hi r : Ln} (h : PieceOk lo hi) (hr : 0 < r.1 ∧ 0 < r.2) (hb : LB M0 r) (hg : Int.gcd r.1 r.2 = 1) (h1 : lessR lo r = true) (h2 : lessR r hi = true) : PieceOk lo r ∧ PieceOk r r ∧ PieceOk r hi := by
  obtain ⟨a1, a2, a3, a4, a5, a6, a7, a8, a9, a10, a11⟩ := h
  obtain ⟨b1, b2, b3, b4⟩ := hb
  exact ⟨⟨a1, a2, hr.1, by omega, a5, a6, b2, b4, .inl h1, a10, hg⟩, ⟨by omega, hr.2, hr.1, by omega, b2, b4, b2, b4, .inr rfl, hg, hg⟩, ⟨by omega, hr.2, a3, a4, b2, b4, a7, a8, .inl h2, hg, a11⟩⟩
theorem cnt_cut {lo hi r : Ln} {ls : List Ln} (h : PieceOk lo hi) (e : firstRoot lo hi ls = some r) (hr : 0 < r.1 ∧ 0 < r.2) (h1 : lessR lo r = true) (h2 : lessR r hi = true) :
    rootCnt lo r ls < rootCnt lo hi ls ∧ rootCnt r r ls < rootCnt lo hi ls ∧ rootCnt r hi ls < rootCnt lo hi ls := by
  obtain ⟨l, hl, el⟩ := firstRoot_some e
  have ql : (rootIn lo hi l).isSome = true := by rw [el]; rfl
  have er := (rootIn_some el).1
  have key : ∀ {x y : Ln}, (∀ z, 0 < z.1 ∧ 0 < z.2 → lessR x z = true ∧ lessR z y = true → lessR lo z = true ∧ lessR z hi = true) → (¬ (lessR x r = true ∧ lessR r y = true)) → rootCnt x y ls < rootCnt lo hi ls := by
    intro x y hz hn
    refine cnt_lt (fun m hm => ?_) hl ?_ ql
    · cases em : rootIn x y m with
      | none => rw [em] at hm; cases hm
      | some z =>
        obtain ⟨e1, e2, e3⟩ := rootIn_some em
        obtain ⟨f1, f2⟩ := hz z (rootL_pos e1) ⟨e2, e3⟩
        unfold rootIn
        rw [e1]
        simp [f1, f2]
    · unfold rootIn
      rw [er]
      simp only
      rw [if_neg hn]
      rfl
  refine ⟨key (fun z hz hh => ⟨hh.1, lessR_trans hz.2 hr.2 h.h2 hh.2 h2⟩) (by simp [lessR_irr]), key (fun z hz hh => ?_) (by simp [lessR_irr]), key (fun z hz hh => ⟨lessR_trans h.l2 hr.2 (by omega) h1 hh.1, hh.2⟩) (by simp [lessR_irr])⟩
  have := lessR_trans hr.2 hz.2 (by omega) hh.1 hh.2
  rw [lessR_irr] at this
  cases this
theorem endLo {lo hi : Ln} (h : PieceOk lo hi) : EndR M0 lo := ⟨h.l1, h.b1, by have := h.l2; omega, h.b2⟩
theorem endHi {lo hi : Ln} (h : PieceOk lo hi) : EndR M0 hi := ⟨by have := h.h1; omega, h.b3, h.h2, h.b4⟩
theorem sumPos {lo hi : Ln} (h : PieceOk lo hi) : lo ≠ hi → 0 < lo.2 + hi.2 := fun _ => by have := h.l2; have := h.h2; omega
/-- lines and their kinds -/
def LinesK (ks : List Kd) (ls : List (Option Lne)) : Prop := ls.length = ks.length ∧ ∀ i l, ls[i]? = some (some l) → l.1 = kat ks i
theorem st_ok {ks : List Kd} {ls : List (Option Lne)} {s : St} {k : Kd} {a b : Lne} (h : s.kind ks = some k) (hl : LinesK ks ls) (ha : ls[s.one]? = some (some a)) (hb : ls[s.two]? = some (some b)) : stOk s a b ∧ (askL s a b).1.1 = k := by
  have ka := hl.2 _ _ ha
  have kb := hl.2 _ _ hb
  cases s <;> simp only [St.kind, St.one, St.two] at h ka kb <;> split at h <;> first | (cases h; done) | skip
  · rename_i c; cases h; exact ⟨by show a.1 = b.1; rw [ka, kb]; exact c.2.2.2, ka⟩
  · rename_i c; cases h; exact ⟨by show a.1 = b.1; rw [ka, kb]; exact c.2.2.2, ka⟩
  · rename_i c; cases h; exact ⟨by show a.1 ≠ b.1; rw [ka, kb]; exact c.2.2.2, rfl⟩
  · rename_i c; cases h
    refine ⟨trivial, ?_⟩
    show (imageL a b).1 = _
    rw [← ka, ← kb]
    obtain ⟨k1, p1⟩ := a
    obtain ⟨k2, p2⟩ := b
    cases k1 <;> cases k2 <;> rfl
theorem st_in {ks : List Kd} {s : St} {k : Kd} (h : s.kind ks = some k) : s.one < ks.length ∧ s.two < ks.length := by
  cases s <;> simp only [St.kind, St.one, St.two] at h ⊢ <;> split at h <;> first | (cases h; done) | (rename_i c; exact ⟨c.1, c.2.1⟩)
theorem isN_O (o : Option Lne) (neg : Bool) : isNb neg (encO o) = if o.isSome = true then neg else !neg := by cases o <;> rfl
end Lk

set_option Elab.async false
set_option linter.all false
set_option maxRecDepth 100000
set_option maxHeartbeats 4000000
/-! QD: advanced, run. -/
namespace Lk
open PySem Fo
theorem enc_1 (s : St) : ixD s.enc (.int 1) = some (.int s.one) := by cases s <;> rfl
theorem enc_2 (s : St) : ixD s.enc (.int 2) = some (.int s.two) := by cases s <;> rfl
theorem lcGo_R {bnd : PyData → Rho → R Rho} {tst : Rho → R (Bool × Rho)} {elt : Rho → R (PyData × Rho)} {ws : List Nat} {ρ : Rho} (h : Ln → Bool) (ls : List Ln)
    (H : ∀ x ∈ ls, ∃ ρ1, bnd (encR x) ρ = .ok ρ1 ∧ tst ρ1 = .ok (true, ρ1) ∧ elt ρ1 = .ok (.bool (h x), ρ1) ∧ wipeR ρ1 ws = ρ) : lcGo bnd tst elt ws (ls.map encR) ρ = .ok (ls.map fun x => .bool (h x), ρ) := by
  have := lcGo_map encR (fun x => PyData.bool (h x)) (fun _ => true) ls (fun x hx => by obtain ⟨ρ1, h1, h2, h3, h4⟩ := H x hx; exact ⟨ρ1, h1, h2, fun _ => h3, h4⟩)
  rw [this, List.filter_eq_self.mpr fun _ _ => rfl]
theorem lnAt_some {ls : List (Option Lne)} {i : Nat} {o : Option Lne} (h : ls[i]? = some o) : lnAt ls i = o := by unfold lnAt; rw [h]; rfl
structure AdvOk (f : Nat) (p : Pce) (s : St) : Prop where
  pc : PieceOk p.1 p.2.1
  len : p.2.2.length ≤ 1000
  i1 : s.one < p.2.2.length
  i2 : s.two < p.2.2.length
  ask : ∀ a b, p.2.2[s.one]? = some (some a) → p.2.2[s.two]? = some (some b) → stOk s a b ∧ (∀ l ∈ askAll (askL s a b), LB M0 l) ∧ (askAll (askL s a b)).length ≤ 6 ∧ rootCnt p.1 p.2.1 (askAll (askL s a b)) < f
theorem r_advanced : ∀ (f n : Nat) (p : Pce) (s : St), f ≤ 12 → 1 ≤ f → AdvOk f p s → callF Q (n + f + 6) 51 [encP p, s.enc] = .ok (.list ((advL f p s).map encP), [])
  | 0, n, p, s, hf, h1, h => by omega
  | f + 1, n, p, s, hf, _, h => by
    obtain ⟨lo, hi, ls⟩ := p
    obtain ⟨pc, len, i1, i2, ask⟩ := h
    simp only at pc len i1 i2 ask
    show callF Q (n + f + 7) 51 _ = _
    rw [callQ (F := F51) rfl rfl]
    have ep : encP (lo, hi, ls) = .tuple [encR lo, encR hi, .tuple (ls.map encO)] := rfl
    have l1 : ls.length + 1 ≤ 16777216 := by omega
    obtain ⟨oa, ga⟩ : ∃ o, ls[s.one]? = some o := ⟨_, List.getElem?_eq_getElem i1⟩
    obtain ⟨ob, gb⟩ : ∃ o, ls[s.two]? = some o := ⟨_, List.getElem?_eq_getElem i2⟩
    have la := lnAt_some ga
    have lb := lnAt_some gb
    cases oa with
    | none =>
      have e : advL (f + 1) (lo, hi, ls) s = [(lo, hi, ls ++ [none])] := by simp only [advL_succ, la]
      rw [e]
      simp [F51, Fo.start, ownAt_eq, bindT_name, parS_cons, ownS_list, ownS_dict, isLst, Tg.slots, wipeR, backR, occ, isOwn, pkI_var, evE_lc, ep, enc_1, enc_2, ga, gb, isN_O, l1]
      simp [encP, encO]
    | some a =>
      cases ob with
      | none =>
        have e : advL (f + 1) (lo, hi, ls) s = [(lo, hi, ls ++ [none])] := by simp only [advL_succ, la, lb]
        rw [e]
        simp [F51, Fo.start, ownAt_eq, bindT_name, parS_cons, ownS_list, ownS_dict, isLst, Tg.slots, wipeR, backR, occ, isOwn, pkI_var, evE_lc, ep, enc_1, enc_2, ga, gb, isN_O, l1]
        simp [encP, encO]
      | some b =>
        obtain ⟨sk, hb, hlen, hc⟩ := ask a b ga gb
        have ea := r_asked (n + f + 3) s a b sk
        have er := r_first_root (n + f + 1) (lo, hi, ls) (askAll (askL s a b)) hb
        have eo : ∀ l : Lne, encO (some l) = encLine l := fun _ => rfl
        have ek : encAsk (askL s a b) = .tuple [encLine (askL s a b).1, .list ((askL s a b).2.1.map encR), .list ((askL s a b).2.2.1.map encR), .list ((askL s a b).2.2.2.map encR)] := rfl
        have hl3 : (askL s a b).2.1.length + (askL s a b).2.2.1.length + (askL s a b).2.2.2.length ≤ 6 := by
          have := hlen; unfold askAll at this; simpa [Nat.add_assoc] using this
        have q1 : (askL s a b).2.1.length + (askL s a b).2.2.1.length ≤ 16777216 := by omega
        have q2 : (askL s a b).2.1.length + (askL s a b).2.2.1.length + (askL s a b).2.2.2.length ≤ 16777216 := by omega
        cases hr : firstRoot lo hi (askAll (askL s a b)) with
        | some r =>
          have e : advL (f + 1) (lo, hi, ls) s = (cutAt (lo, hi, ls) r).flatMap fun q => advL f q s := by simp only [advL_succ, la, lb, hr]
          rw [e]
          simp only [hr, optL_some] at er
          obtain ⟨l, hl, el⟩ := firstRoot_some hr
          obtain ⟨e1, e2, e3⟩ := rootIn_some el
          have hp := rootL_pos e1
          have hB := rootL_LB (hb l hl) e1
          obtain ⟨c1, c2, c3⟩ := cnt_cut pc hr hp e2 e3
          obtain ⟨o1, o2, o3⟩ := cut_ok pc hp hB (rootL_red e1) e2 e3
          have f1 : 1 ≤ f := by omega
          have ih1 := r_advanced f n (lo, r, ls) s (by omega) f1 ⟨o1, len, i1, i2, fun a' b' h1 h2 => by rw [ga] at h1; rw [gb] at h2; cases h1; cases h2; exact ⟨sk, hb, hlen, by show rootCnt lo r _ < f; omega⟩⟩
          have ih2 := r_advanced f n (r, r, ls) s (by omega) f1 ⟨o2, len, i1, i2, fun a' b' h1 h2 => by rw [ga] at h1; rw [gb] at h2; cases h1; cases h2; exact ⟨sk, hb, hlen, by show rootCnt r r _ < f; omega⟩⟩
          have ih3 := r_advanced f n (r, hi, ls) s (by omega) f1 ⟨o3, len, i1, i2, fun a' b' h1 h2 => by rw [ga] at h1; rw [gb] at h2; cases h1; cases h2; exact ⟨sk, hb, hlen, by show rootCnt r hi _ < f; omega⟩⟩
          have er2 := r_cut_at (n + f + 5) (lo, hi, ls) r
          have b12 : 3 ^ f ≤ 3 ^ 11 := Nat.pow_le_pow_right (by decide) (by omega)
          have b13 : (3 : Nat) ^ 11 = 177147 := by decide
          have n1 := advL_len f (lo, r, ls) s
          have n2 := advL_len f (r, r, ls) s
          have n3 := advL_len f (r, hi, ls) s
          have w1 : (advL f (lo, r, ls) s).length ≤ 16777216 := by omega
          have w2 : (advL f (lo, r, ls) s).length + (advL f (r, r, ls) s).length ≤ 16777216 := by omega
          have w3 : (advL f (lo, r, ls) s).length + (advL f (r, r, ls) s).length + (advL f (r, hi, ls) s).length ≤ 16777216 := by omega
          simp [askAll] at er
          rw [ep] at er er2
          simp [F51, Fo.start, ownAt_eq, bindT_name, parS_cons, ownS_list, ownS_dict, isLst, Tg.slots, wipeR, backR, occ, isOwn, pkI_var, evE_lc, ep, enc_1, enc_2, ga, gb, isN_O, eo, ea, ek, q1, q2, er, isN_R, isN_L, er2, cutAt, goL, ih1, ih2, ih3, w1, w2, w3]
        | none =>
          have e : advL (f + 1) (lo, hi, ls) s = [(lo, hi, ls ++ [if goodA lo hi (askL s a b) = true then some (askL s a b).1 else none])] := by simp only [advL_succ, la, lb, hr]
          rw [e]
          simp only [hr] at er
          have er : callF Q (n + f + 6) 45 [encP (lo, hi, ls), .list ((askAll (askL s a b)).map encR)] = .ok (.none, []) := er
          simp [askAll] at er
          have sg : ∀ l ∈ askAll (askL s a b), callF Q (n + f + 6) 43 [encP (lo, hi, ls), encR l] = .ok (.int (signIn lo hi l), []) := fun l hl => r_sign_in (n + f + 2) (lo, hi, ls) l (endLo pc) (endHi pc) (sumPos pc) (hb l hl)
          rw [ep] at er sg
          have u1 : (askL s a b).2.1.length ≤ 16777216 := by omega
          have u2 : (askL s a b).2.2.1.length ≤ 16777216 := by omega
          have u3 : (askL s a b).2.2.2.length ≤ 16777216 := by omega
          have m1 : ∀ l ∈ (askL s a b).2.1, l ∈ askAll (askL s a b) := fun l h => by unfold askAll; simp [h]
          have m2 : ∀ l ∈ (askL s a b).2.2.1, l ∈ askAll (askL s a b) := fun l h => by unfold askAll; simp [h]
          have m3 : ∀ l ∈ (askL s a b).2.2.2, l ∈ askAll (askL s a b) := fun l h => by unfold askAll; simp [h]
          simp [F51, Fo.start, ownAt_eq, bindT_name, parS_cons, ownS_list, ownS_dict, isLst, Tg.slots, wipeR, backR, occ, isOwn, pkI_var, evE_lc, ep, enc_1, enc_2, ga, gb, isN_O, eo, ea, ek, q1, q2, er, isN_L, kLc_ok, u1]
          rw [lcGo_R (fun l => !decide (signIn lo hi l = 0)) _ ?c1]
          case c1 =>
            intro l hl
            exact ⟨_, bindT_name _ _ _ (by simp), rfl, by simp [Fo.start, ownAt_eq, bindT_name, parS_cons, ownS_list, ownS_dict, isLst, Tg.slots, wipeR, backR, occ, isOwn, pkI_var, evE_lc, sg l (m1 l hl)], by simp [wipeR]⟩
          by_cases g1 : ((askL s a b).2.1.all fun l => !decide (signIn lo hi l = 0)) = true
          · simp [Fo.start, ownAt_eq, bindT_name, parS_cons, ownS_list, ownS_dict, isLst, Tg.slots, wipeR, backR, occ, isOwn, pkI_var, evE_lc, bj_all, g1, kLc_ok, u2]
            rw [lcGo_R (fun l => decide (0 ≤ signIn lo hi l)) _ ?c2]
            case c2 =>
              intro l hl
              exact ⟨_, bindT_name _ _ _ (by simp), rfl, by simp [Fo.start, ownAt_eq, bindT_name, parS_cons, ownS_list, ownS_dict, isLst, Tg.slots, wipeR, backR, occ, isOwn, pkI_var, evE_lc, sg l (m2 l hl)], by simp [wipeR]⟩
            by_cases g2 : ((askL s a b).2.2.1.all fun l => decide (0 ≤ signIn lo hi l)) = true
            · simp [Fo.start, ownAt_eq, bindT_name, parS_cons, ownS_list, ownS_dict, isLst, Tg.slots, wipeR, backR, occ, isOwn, pkI_var, evE_lc, bj_all, g2, kLc_ok, u3]
              rw [lcGo_R (fun l => decide (0 < signIn lo hi l)) _ ?c3]
              case c3 =>
                intro l hl
                exact ⟨_, bindT_name _ _ _ (by simp), rfl, by simp [Fo.start, ownAt_eq, bindT_name, parS_cons, ownS_list, ownS_dict, isLst, Tg.slots, wipeR, backR, occ, isOwn, pkI_var, evE_lc, sg l (m3 l hl)], by simp [wipeR]⟩
              by_cases g3 : ((askL s a b).2.2.2.all fun l => decide (0 < signIn lo hi l)) = true
              · have hg : goodA lo hi (askL s a b) = true := by unfold goodA; rw [g1, g2, g3]; rfl
                simp [Fo.start, ownAt_eq, bindT_name, parS_cons, ownS_list, ownS_dict, isLst, Tg.slots, wipeR, backR, occ, isOwn, pkI_var, evE_lc, bj_all, g3, l1, hg, encP, encO]
              · have hg : ¬ goodA lo hi (askL s a b) = true := by unfold goodA; rw [g1, g2]; simpa using g3
                simp [Fo.start, ownAt_eq, bindT_name, parS_cons, ownS_list, ownS_dict, isLst, Tg.slots, wipeR, backR, occ, isOwn, pkI_var, evE_lc, bj_all, g3, l1, hg, encP, encO]
            · have hg : ¬ goodA lo hi (askL s a b) = true := by unfold goodA; rw [g1, Bool.not_eq_true _ |>.mp g2]; simp
              simp [Fo.start, ownAt_eq, bindT_name, parS_cons, ownS_list, ownS_dict, isLst, Tg.slots, wipeR, backR, occ, isOwn, pkI_var, evE_lc, bj_all, g2, l1, hg, encP, encO]
          · have hg : ¬ goodA lo hi (askL s a b) = true := by unfold goodA; rw [Bool.not_eq_true _ |>.mp g1]; simp
            simp [Fo.start, ownAt_eq, bindT_name, parS_cons, ownS_list, ownS_dict, isLst, Tg.slots, wipeR, backR, occ, isOwn, pkI_var, evE_lc, bj_all, g1, l1, hg, encP, encO]
end Lk

set_option Elab.async false
set_option linter.all false
set_option maxRecDepth 100000
set_option maxHeartbeats 4000000
/-! QE: signs within a piece. -/
namespace Lk
open PySem Fo
/-- a ratio -/
def Rat (r : Ln) : Prop := 0 < r.1 ∧ 0 < r.2
def sameR (a b : Ln) : Prop := a.1 * b.2 = b.1 * a.2
/-- a ratio in a piece -/
def inP (lo hi r : Ln) : Prop := (lo = hi ∧ sameR lo r) ∨ (lessR lo r = true ∧ lessR r hi = true)
theorem lowL_mul {t b : Int} (ht : 0 < t) (hb : 0 < b) : ∃ g : Int, 0 < g ∧ t = g * (lowL t b).1 ∧ b = g * (lowL t b).2 := by
  have g1 := gcd_pos (t := t) hb
  obtain ⟨x, hx⟩ : ((Int.gcd t b : Nat) : Int) ∣ t := Int.gcd_dvd_left t b
  obtain ⟨y, hy⟩ : ((Int.gcd t b : Nat) : Int) ∣ b := Int.gcd_dvd_right t b
  refine ⟨(Int.gcd t b : Nat), g1, ?_, ?_⟩
  · unfold lowL
    show t = _ * (t / _)
    rw [Int.mul_ediv_cancel' (Int.gcd_dvd_left t b)]
  · unfold lowL
    show b = _ * (b / _)
    rw [Int.mul_ediv_cancel' (Int.gcd_dvd_right t b)]
theorem mul_pos_iff {g x : Int} (hg : 0 < g) : 0 < g * x ↔ 0 < x := by
  constructor
  · intro h
    exact Int.lt_of_mul_lt_mul_left (a := g) (by rw [Int.mul_zero]; exact h) (by omega)
  · intro h
    exact Int.mul_pos hg h
theorem less_lowL {t b : Int} (ht : 0 < t) (hb : 0 < b) (r : Ln) : (lessR (lowL t b) r = true ↔ t * r.2 < r.1 * b) ∧ (lessR r (lowL t b) = true ↔ r.1 * b < t * r.2) := by
  obtain ⟨g, hg, e1, e2⟩ := lowL_mul ht hb
  rw [lessR_iff, lessR_iff]
  generalize (lowL t b).1 = x at *
  generalize (lowL t b).2 = y at *
  subst e1 e2
  have i1 : r.1 * (g * y) - g * x * r.2 = g * (r.1 * y - x * r.2) := by
    rw [Int.mul_sub, Int.mul_left_comm, Int.mul_assoc]
  have p1 := mul_pos_iff (x := r.1 * y - x * r.2) hg
  have p2 := mul_pos_iff (x := x * r.2 - r.1 * y) hg
  have i2 : g * (x * r.2 - r.1 * y) = g * x * r.2 - r.1 * (g * y) := by
    rw [Int.mul_sub, Int.mul_left_comm r.1 g y, Int.mul_assoc]
  rw [← i1] at p1
  rw [i2] at p2
  omega
theorem inner_in {lo hi : Ln} (h : PieceOk lo hi) : Rat (innerR lo hi) ∧ inP lo hi (innerR lo hi) := by
  obtain ⟨a1, a2, a3, a4, _, _, _, _, lt, _, _⟩ := h
  unfold innerR
  by_cases e : lo = hi
  · rw [if_pos e]
    subst e
    exact ⟨⟨a3, a2⟩, .inl ⟨rfl, rfl⟩⟩
  · rw [if_neg e]
    have hl : lessR lo hi = true := by rcases lt with h | h; exact h; exact absurd h e
    have p1 : 0 < lo.1 + hi.1 := by omega
    have p2 : 0 < lo.2 + hi.2 := by omega
    obtain ⟨q1, q2⟩ := less_lowL p1 p2 lo
    obtain ⟨q3, q4⟩ := less_lowL p1 p2 hi
    rw [lessR_iff] at hl
    refine ⟨lowL_pos p1 p2, .inr ⟨q2.mpr ?_, q3.mpr ?_⟩⟩
    · rw [Int.mul_add, Int.add_mul]; omega
    · rw [Int.mul_add, Int.add_mul]; rw [Int.mul_comm hi.1 lo.2] at *; rw [Int.mul_comm lo.2 hi.1] at *; omega
theorem lessR_trans2 {a b c : Ln} (ha : 0 ≤ a.1 ∧ 0 < a.2) (hb : Rat b) (hc : 0 < c.1 ∧ 0 ≤ c.2) (h1 : ¬ lessR b a = true) (h2 : lessR b c = true) : lessR a c = true := by
  rw [lessR_iff] at *
  obtain ⟨a1, a2⟩ := a
  obtain ⟨b1, b2⟩ := b
  obtain ⟨c1, c2⟩ := c
  obtain ⟨hb1, hb2⟩ := hb
  simp only at *
  have e1 : a1 * b2 * c2 ≤ b1 * a2 * c2 := Int.mul_le_mul_of_nonneg_right (by omega) hc.2
  have e2 : b1 * c2 * a2 < c1 * b2 * a2 := Int.mul_lt_mul_of_pos_right h2 ha.2
  have e3 : b2 * (a1 * c2) < b2 * (c1 * a2) := by
    have i1 : a1 * b2 * c2 = b2 * (a1 * c2) := by rw [Int.mul_comm a1 b2, Int.mul_assoc]
    have i2 : b1 * a2 * c2 = b1 * c2 * a2 := by rw [Int.mul_assoc, Int.mul_comm a2 c2, ← Int.mul_assoc]
    have i3 : c1 * b2 * a2 = b2 * (c1 * a2) := by rw [Int.mul_comm c1 b2, Int.mul_assoc]
    omega
  exact Int.lt_of_mul_lt_mul_left e3 (by omega)
theorem lessR_trans3 {a b c : Ln} (ha : 0 ≤ a.1 ∧ 0 < a.2) (hb : Rat b) (hc : 0 < c.1 ∧ 0 ≤ c.2) (h1 : lessR a b = true) (h2 : ¬ lessR c b = true) : lessR a c = true := by
  rw [lessR_iff] at *
  obtain ⟨a1, a2⟩ := a
  obtain ⟨b1, b2⟩ := b
  obtain ⟨c1, c2⟩ := c
  obtain ⟨hb1, hb2⟩ := hb
  simp only at *
  -- a1 b2 < b1 a2 ; b1 c2 ≤ c1 b2
  have e2 : b1 * c2 * a2 ≤ c1 * b2 * a2 := Int.mul_le_mul_of_nonneg_right (by omega) (by omega)
  have i3 : c1 * b2 * a2 = b2 * (c1 * a2) := by rw [Int.mul_comm c1 b2, Int.mul_assoc]
  have i2 : b1 * a2 * c2 = b1 * c2 * a2 := by rw [Int.mul_assoc, Int.mul_comm a2 c2, ← Int.mul_assoc]
  have i1 : a1 * b2 * c2 = b2 * (a1 * c2) := by rw [Int.mul_comm a1 b2, Int.mul_assoc]
  rcases Int.lt_or_eq_of_le hc.2 with z | z
  · have e1 : a1 * b2 * c2 < b1 * a2 * c2 := Int.mul_lt_mul_of_pos_right h1 z
    exact Int.lt_of_mul_lt_mul_left (a := b2) (by omega) (by omega)
  · subst z
    have : 0 < c1 * a2 := Int.mul_pos hc.1 ha.2
    omega
theorem sgn_pos {i : Int} (h : 0 < i) : sgn i = 1 := by unfold sgn; rw [if_pos h, if_neg (by omega)]; rfl
theorem sgn_neg {i : Int} (h : i < 0) : sgn i = -1 := by unfold sgn; rw [if_neg (by omega), if_pos h]; rfl
theorem sgn_zero : sgn 0 = 0 := rfl
theorem sgn_iff (i : Int) : (sgn i = 0 ↔ i = 0) ∧ (0 ≤ sgn i ↔ 0 ≤ i) ∧ (0 < sgn i ↔ 0 < i) := by
  unfold sgn
  by_cases h1 : 0 < i
  · rw [if_pos h1, if_neg (by omega)]; omega
  · by_cases h2 : i < 0
    · rw [if_neg h1, if_pos h2]; omega
    · rw [if_neg h1, if_neg h2]; omega
/-- the sign of a length at a ratio, by the place of its root -/
theorem worth_sign {l : Ln} {r : Ln} (hr : Rat r) (hz : l.1 * l.2 < 0) : ∃ q, rootL l = some q ∧ Rat q ∧
    ((0 < l.1 ∧ (0 < worthL l r ↔ lessR q r = true) ∧ (worthL l r < 0 ↔ lessR r q = true)) ∨ (l.1 < 0 ∧ (0 < worthL l r ↔ lessR r q = true) ∧ (worthL l r < 0 ↔ lessR q r = true))) := by
  obtain ⟨a, b⟩ := l
  obtain ⟨w, h⟩ := r
  simp only at hz
  have e : rootL (a, b) = some (lowL b.natAbs a.natAbs) := if_pos hz
  have ha : a ≠ 0 := by rintro rfl; simp at hz
  have hb : b ≠ 0 := by rintro rfl; simp at hz
  have pa : (0 : Int) < a.natAbs := by omega
  have pb : (0 : Int) < b.natAbs := by omega
  obtain ⟨q1, q2⟩ := less_lowL pb pa (w, h)
  refine ⟨_, e, lowL_pos pb pa, ?_⟩
  unfold worthL
  simp only at q1 q2 ⊢
  have hpos : 0 < a ∧ b < 0 ∨ a < 0 ∧ 0 < b := by
    rcases Int.lt_or_gt_of_ne ha with h1 | h1
    · rcases Int.lt_or_gt_of_ne hb with h2 | h2
      · have := Int.mul_pos_of_neg_of_neg h1 h2; omega
      · exact .inr ⟨h1, h2⟩
    · rcases Int.lt_or_gt_of_ne hb with h2 | h2
      · exact .inl ⟨h1, h2⟩
      · have := Int.mul_pos h1 h2; omega
  rcases hpos with ⟨h1, h2⟩ | ⟨h1, h2⟩
  · have ea : (a.natAbs : Int) = a := by omega
    have eb : (b.natAbs : Int) = -b := by omega
    rw [ea, eb] at q1 q2
    rw [Int.neg_mul, Int.mul_comm w a] at q1 q2
    rw [ea, eb]
    exact .inl ⟨h1, ⟨fun z => q1.mpr (by omega), fun z => by have := q1.mp z; omega⟩, ⟨fun z => q2.mpr (by omega), fun z => by have := q2.mp z; omega⟩⟩
  · have ea : (a.natAbs : Int) = -a := by omega
    have eb : (b.natAbs : Int) = b := by omega
    rw [ea, eb] at q1 q2
    rw [Int.mul_neg, Int.mul_comm w a] at q1 q2
    rw [ea, eb]
    exact .inr ⟨h1, ⟨fun z => q2.mpr (by omega), fun z => by have := q2.mp z; omega⟩, ⟨fun z => q1.mpr (by omega), fun z => by have := q1.mp z; omega⟩⟩
theorem worth_mono {l r : Ln} (hr : Rat r) (h : 0 ≤ l.1 * l.2) : (0 < worthL l r ↔ 0 < l.1 + l.2) ∧ (worthL l r < 0 ↔ l.1 + l.2 < 0) := by
  obtain ⟨a, b⟩ := l
  obtain ⟨w, g⟩ := r
  obtain ⟨hw, hg⟩ := hr
  unfold worthL
  simp only at *
  have k1 : ∀ {x y : Int}, 0 < x → 0 < y → 0 < x * y := fun h1 h2 => Int.mul_pos h1 h2
  rcases Int.lt_trichotomy a 0 with ha | ha | ha
  · have n1 : a * w < 0 := Int.mul_neg_of_neg_of_pos ha hw
    rcases Int.lt_trichotomy b 0 with hb | hb | hb
    · have n2 : b * g < 0 := Int.mul_neg_of_neg_of_pos hb hg
      omega
    · subst hb; simp; omega
    · have := Int.mul_neg_of_neg_of_pos ha hb; omega
  · subst ha
    rcases Int.lt_trichotomy b 0 with hb | hb | hb
    · have n2 : b * g < 0 := Int.mul_neg_of_neg_of_pos hb hg
      simp; omega
    · subst hb; simp
    · have n2 := k1 hb hg
      simp; omega
  · have n1 := k1 ha hw
    rcases Int.lt_trichotomy b 0 with hb | hb | hb
    · have := Int.mul_neg_of_neg_of_pos hb ha; rw [Int.mul_comm] at this; omega
    · subst hb; simp; omega
    · have n2 := k1 hb hg
      omega
theorem sgn_eq {i j : Int} (h1 : 0 < i ↔ 0 < j) (h2 : i < 0 ↔ j < 0) : sgn i = sgn j := by
  rcases Int.lt_trichotomy i 0 with h | h | h
  · rw [sgn_neg h, sgn_neg (h2.mp h)]
  · have : j = 0 := by omega
    rw [h, this]
  · rw [sgn_pos h, sgn_pos (h1.mp h)]
/-- a length whose root does not lie within a piece has one sign there -/
theorem sign_const {lo hi l r m : Ln} (h : PieceOk lo hi) (hn : rootIn lo hi l = none) (hr : Rat r) (hm : Rat m) (r1 : inP lo hi r) (m1 : inP lo hi m) : sgn (worthL l r) = sgn (worthL l m) := by
  have hlo : 0 ≤ lo.1 ∧ 0 < lo.2 := ⟨h.l1, h.l2⟩
  have hhi : 0 < hi.1 ∧ 0 ≤ hi.2 := ⟨h.h1, h.h2⟩
  by_cases hz : l.1 * l.2 < 0
  · obtain ⟨q, e, hq, hs⟩ := worth_sign hr hz
    obtain ⟨q', e', _, hs'⟩ := worth_sign hm hz
    rw [e] at e'
    cases e'
    have nq : ¬ (lessR lo q = true ∧ lessR q hi = true) := by
      unfold rootIn at hn
      rw [e] at hn
      simp only at hn
      intro z
      rw [if_pos z] at hn
      cases hn
    -- the root lies on the same side of both
    have side : ((lessR q r = true ↔ lessR q m = true) ∧ (lessR r q = true ↔ lessR m q = true)) := by
      rcases r1 with ⟨e1, s1⟩ | ⟨a1, a2⟩
      · rcases m1 with ⟨_, s2⟩ | ⟨a1, a2⟩
        · -- a point: both are worth the same
          have key : ∀ x : Ln, Rat x → sameR lo x → (lessR q x = true ↔ lessR q lo = true) ∧ (lessR x q = true ↔ lessR lo q = true) := by
            intro x hx sx
            have plo : 0 < lo.1 := by rw [e1]; exact h.h1
            have irr := lessR_irr
            have nx1 : ¬ lessR x lo = true := by rw [lessR_iff]; unfold sameR at sx; omega
            have nx2 : ¬ lessR lo x = true := by rw [lessR_iff]; unfold sameR at sx; omega
            have rlo : Rat lo := ⟨plo, hlo.2⟩
            refine ⟨⟨fun z => ?_, fun z => ?_⟩, ⟨fun z => ?_, fun z => ?_⟩⟩
            · exact lessR_trans3 ⟨by have := hq.1; omega, hq.2⟩ hx ⟨plo, by omega⟩ z nx2
            · exact lessR_trans3 ⟨by have := hq.1; omega, hq.2⟩ rlo ⟨hx.1, by have := hx.2; omega⟩ z nx1
            · exact lessR_trans2 ⟨by omega, hlo.2⟩ hx ⟨hq.1, by have := hq.2; omega⟩ nx1 z
            · exact lessR_trans2 ⟨by have := hx.1; omega, hx.2⟩ rlo ⟨hq.1, by have := hq.2; omega⟩ nx2 z
          have k1 := key r hr s1
          have k2 := key m hm s2
          exact ⟨k1.1.trans k2.1.symm, k1.2.trans k2.2.symm⟩
        · rw [e1] at a1
          have := lessR_trans (a := hi) (by rw [← e1]; exact hlo.2) hm.2 (by rw [← e1]; omega) a1 a2
          rw [lessR_irr] at this
          cases this
      · rcases m1 with ⟨e1, s2⟩ | ⟨b1, b2⟩
        · rw [e1] at a1
          have := lessR_trans (a := hi) (by rw [← e1]; exact hlo.2) hr.2 (by rw [← e1]; omega) a1 a2
          rw [lessR_irr] at this
          cases this
        · by_cases c1 : lessR lo q = true
          · have c2 : ¬ lessR q hi = true := fun z => nq ⟨c1, z⟩
            -- hi <= q : r < q and m < q
            have f : ∀ x : Ln, Rat x → lessR x hi = true → lessR x q = true ∧ ¬ lessR q x = true := by
              intro x hx hxh
              have z1 : lessR x q = true := by
                rw [lessR_iff] at hxh c2 ⊢
                obtain ⟨x1, x2⟩ := x
                obtain ⟨q1, q2⟩ := q
                obtain ⟨i1, i2⟩ := hi
                obtain ⟨hx1, hx2⟩ := hx
                obtain ⟨hq1, hq2⟩ := hq
                simp only at *
                -- x1 i2 < i1 x2 ; i1 q2 <= q1 i2
                have p1 : i1 * (x1 * q2) ≤ x1 * (q1 * i2) := by
                  have := Int.mul_le_mul_of_nonneg_left (show i1 * q2 ≤ q1 * i2 by omega) (show 0 ≤ x1 by omega)
                  rw [Int.mul_left_comm] at this
                  exact this
                have p2 : q1 * (x1 * i2) < q1 * (i1 * x2) := Int.mul_lt_mul_of_pos_left hxh hq1
                have j1 : x1 * (q1 * i2) = q1 * (x1 * i2) := Int.mul_left_comm _ _ _
                have j2 : q1 * (i1 * x2) = i1 * (q1 * x2) := Int.mul_left_comm _ _ _
                exact Int.lt_of_mul_lt_mul_left (a := i1) (by omega) (by omega)
              refine ⟨z1, fun z2 => ?_⟩
              have := lessR_trans hx.2 hq.2 (by have := hx.2; omega) z1 z2
              rw [lessR_irr] at this
              cases this
            have f1 := f r hr a2
            have f2 := f m hm b2
            exact ⟨⟨fun z => absurd z f1.2, fun z => absurd z f2.2⟩, ⟨fun _ => f2.1, fun _ => f1.1⟩⟩
          · have f : ∀ x : Ln, Rat x → lessR lo x = true → lessR q x = true ∧ ¬ lessR x q = true := by
              intro x hx hxl
              have z1 : lessR q x = true := by
                rw [lessR_iff] at hxl c1 ⊢
                obtain ⟨x1, x2⟩ := x
                obtain ⟨q1, q2⟩ := q
                obtain ⟨i1, i2⟩ := lo
                obtain ⟨hx1, hx2⟩ := hx
                obtain ⟨hq1, hq2⟩ := hq
                simp only at *
                -- i1 x2 < x1 i2 ; q1 i2 <= i1 q2
                have p1 : x2 * (q1 * i2) ≤ x2 * (i1 * q2) := Int.mul_le_mul_of_nonneg_left (by omega) (by omega)
                have p2 : q2 * (i1 * x2) < q2 * (x1 * i2) := Int.mul_lt_mul_of_pos_left hxl hq2
                have j1 : x2 * (i1 * q2) = q2 * (i1 * x2) := by rw [Int.mul_comm i1 q2, Int.mul_left_comm, Int.mul_comm x2 i1]
                have j2 : x2 * (q1 * i2) = i2 * (q1 * x2) := by rw [Int.mul_left_comm, Int.mul_comm x2 i2, Int.mul_left_comm]
                have j3 : q2 * (x1 * i2) = i2 * (x1 * q2) := by rw [Int.mul_left_comm, Int.mul_comm q2 i2, Int.mul_left_comm]
                exact Int.lt_of_mul_lt_mul_left (a := i2) (by omega) (by omega)
              refine ⟨z1, fun z2 => ?_⟩
              have := lessR_trans hq.2 hx.2 (by have := hq.2; omega) z1 z2
              rw [lessR_irr] at this
              cases this
            have f1 := f r hr a1
            have f2 := f m hm b1
            exact ⟨⟨fun _ => f2.1, fun _ => f1.1⟩, ⟨fun z => absurd z f1.2, fun z => absurd z f2.2⟩⟩
    rcases hs with ⟨p, s1, s2⟩ | ⟨p, s1, s2⟩
    · rcases hs' with ⟨_, t1, t2⟩ | ⟨p', _⟩
      · exact sgn_eq (s1.trans (side.1.trans t1.symm)) (s2.trans (side.2.trans t2.symm))
      · omega
    · rcases hs' with ⟨p', _⟩ | ⟨_, t1, t2⟩
      · omega
      · exact sgn_eq (s1.trans (side.2.trans t1.symm)) (s2.trans (side.1.trans t2.symm))
  · have w1 := worth_mono (l := l) hr (by omega)
    have w2 := worth_mono (l := l) hm (by omega)
    exact sgn_eq (w1.1.trans w2.1.symm) (w1.2.trans w2.2.symm)
end Lk

set_option Elab.async false
set_option linter.all false
set_option maxRecDepth 100000
set_option maxHeartbeats 4000000
/-! QF: what a step leaves: pieces in a chain, each with the lines at its ratios. -/
namespace Lk
open PySem Fo
def goodAt (r : Ln) (a : Ask) : Bool := (a.2.1.all fun l => !decide (worthL l r = 0)) && (a.2.2.1.all fun l => decide (0 ≤ worthL l r)) && (a.2.2.2.all fun l => decide (0 < worthL l r))
def stepAt (r : Ln) (ls : List (Option Lne)) (s : St) : Option Lne := match lnAt ls s.one, lnAt ls s.two with
  | some a, some b => if goodAt r (askL s a b) = true then some (askL s a b).1 else none
  | _, _ => none
theorem all_congr {α : Type} {p q : α → Bool} : ∀ {ls : List α}, (∀ l ∈ ls, p l = q l) → ls.all p = ls.all q
  | [], _ => rfl
  | x :: r, h => by simp only [List.all_cons]; rw [h x (.head _), all_congr fun l hl => h l (.tail _ hl)]
theorem goodA_eq {lo hi r : Ln} {a : Ask} (h : PieceOk lo hi) (hn : firstRoot lo hi (askAll a) = none) (hr : Rat r) (r1 : inP lo hi r) : goodA lo hi a = goodAt r a := by
  have hs : ∀ l ∈ askAll a, signIn lo hi l = sgn (worthL l r) := fun l hl => by
    obtain ⟨i1, i2⟩ := inner_in h
    exact (sign_const h (firstRoot_none hn l hl) hr i1 r1 i2).symm
  unfold goodA goodAt
  congr 1
  · congr 1
    · exact all_congr fun l hl => by
        have := (sgn_iff (worthL l r)).1
        rw [hs l (by unfold askAll; simp [hl])]
        by_cases z : worthL l r = 0 <;> simp [z, this]
        exact sgn_zero
    · exact all_congr fun l hl => by
        rw [hs l (by unfold askAll; simp [hl])]
        exact decide_eq_decide.mpr (sgn_iff _).2.1
  · exact all_congr fun l hl => by
      rw [hs l (by unfold askAll; simp [hl])]
      exact decide_eq_decide.mpr (sgn_iff _).2.2
def Chn : Ln → Ln → List Pce → Prop
  | _, _, [] => False
  | lo, hi, [p] => p.1 = lo ∧ p.2.1 = hi ∧ lessR lo hi = true
  | lo, hi, p :: q :: rest => p.1 = lo ∧ p.2.1 = q.1 ∧ q.2.1 = q.1 ∧ lessR lo q.1 = true ∧ Chn q.1 hi rest
theorem chn_app {m hi : Ln} {q : Pce} {qs : List Pce} (h1 : q.1 = m) (h2 : q.2.1 = m) (hq : Chn m hi qs) : ∀ {ps : List Pce} {lo : Ln}, Chn lo m ps → Chn lo hi (ps ++ q :: qs)
  | [], lo, h => h.elim
  | [p], lo, h => by
    obtain ⟨a, b, c⟩ := h
    exact ⟨a, by rw [b, h1], by rw [h2, h1], by rw [h1]; exact c, by rw [h1]; exact hq⟩
  | p :: p2 :: rest, lo, h => by
    obtain ⟨a, b, c, d, e⟩ := h
    exact ⟨a, b, c, d, chn_app h1 h2 hq e⟩
theorem cnt_two {p1 p2 q : Ln → Bool} : ∀ {ls : List Ln} {l : Ln}, (∀ l, p1 l = true → p2 l = true → False) → (∀ l, p1 l = true → q l = true) → (∀ l, p2 l = true → q l = true) → l ∈ ls → p1 l = false → p2 l = false → q l = true →
    (ls.filter p1).length + (ls.filter p2).length + 1 ≤ (ls.filter q).length
  | x :: r, l, h0, h1, h2, hl, a, b, c => by
    have le : ∀ {ls : List Ln}, (ls.filter p1).length + (ls.filter p2).length ≤ (ls.filter q).length := by
      intro ls
      induction ls with
      | nil => simp
      | cons y t ih =>
        cases e1 : p1 y <;> cases e2 : p2 y <;> cases e3 : q y <;> simp [e1, e2, e3] <;> first
          | omega
          | exact (h0 y e1 e2).elim
          | (have := h1 y e1; rw [e3] at this; cases this; done)
          | (have := h2 y e2; rw [e3] at this; cases this; done)
    rcases List.mem_cons.mp hl with rfl | hl
    · have := le (ls := r)
      simp [a, b, c]
      omega
    · have ih := cnt_two h0 h1 h2 hl a b c
      cases e1 : p1 x <;> cases e2 : p2 x <;> cases e3 : q x <;> simp [e1, e2, e3] <;> first
          | omega
          | exact (h0 x e1 e2).elim
          | (have := h1 x e1; rw [e3] at this; cases this; done)
          | (have := h2 x e2; rw [e3] at this; cases this; done)
theorem cnt_sum {lo hi r : Ln} {ls : List Ln} (h : PieceOk lo hi) (e : firstRoot lo hi ls = some r) (hr : Rat r) (h1 : lessR lo r = true) (h2 : lessR r hi = true) : rootCnt lo r ls + rootCnt r hi ls + 1 ≤ rootCnt lo hi ls := by
  obtain ⟨l, hl, el⟩ := firstRoot_some e
  have er := (rootIn_some el).1
  have up : ∀ {x y : Ln} (m : Ln), (∀ z, Rat z → lessR x z = true ∧ lessR z y = true → lessR lo z = true ∧ lessR z hi = true) → (rootIn x y m).isSome = true → (rootIn lo hi m).isSome = true := by
    intro x y m hz hm
    cases em : rootIn x y m with
    | none => rw [em] at hm; cases hm
    | some z =>
      obtain ⟨e1, e2, e3⟩ := rootIn_some em
      obtain ⟨f1, f2⟩ := hz z (rootL_pos e1) ⟨e2, e3⟩
      unfold rootIn
      rw [e1]
      simp [f1, f2]
  have no : ∀ {x y : Ln}, ¬ (lessR x r = true ∧ lessR r y = true) → (rootIn x y l).isSome = false := by
    intro x y hn
    unfold rootIn
    rw [er]
    simp only
    rw [if_neg hn]
    rfl
  refine cnt_two (fun m a b => ?_) (fun m => up m fun z hz hh => ⟨hh.1, lessR_trans hz.2 hr.2 h.h2 hh.2 h2⟩) (fun m => up m fun z hz hh => ⟨lessR_trans h.l2 hr.2 (by have := hz.2; omega) h1 hh.1, hh.2⟩) hl (no (by simp [lessR_irr])) (no (by simp [lessR_irr])) (by rw [el]; rfl)
  cases em : rootIn lo r m with
  | none => rw [em] at a; cases a
  | some z =>
    obtain ⟨e1, e2, e3⟩ := rootIn_some em
    cases em2 : rootIn r hi m with
    | none => rw [em2] at b; cases b
    | some z2 =>
      obtain ⟨g1, g2, g3⟩ := rootIn_some em2
      rw [e1] at g1
      cases g1
      have := lessR_trans hr.2 (rootL_pos e1).2 (by have := hr.2; omega) g2 e3
      rw [lessR_irr] at this
      cases this
/-- what a step leaves of a piece -/
structure AdvRes (p : Pce) (s : St) (qs : List Pce) (c : Nat) : Prop where
  pc : ∀ q ∈ qs, PieceOk q.1 q.2.1 ∧ ∀ r, Rat r → inP q.1 q.2.1 r → q.2.2 = p.2.2 ++ [stepAt r p.2.2 s] ∧ inP p.1 p.2.1 r
  ch : lessR p.1 p.2.1 = true → Chn p.1 p.2.1 qs
  pt : p.1 = p.2.1 → ∃ x, qs = [(p.1, p.1, x)]
  ct : qs.length ≤ 2 * c + 1
theorem adv_res : ∀ (f : Nat) (p : Pce) (s : St), 1 ≤ f → AdvOk f p s → ∃ c, c ≤ 6 ∧ (∀ a b, p.2.2[s.one]? = some (some a) → p.2.2[s.two]? = some (some b) → c ≤ rootCnt p.1 p.2.1 (askAll (askL s a b))) ∧ AdvRes p s (advL f p s) c
  | 0, p, s, h, _ => by omega
  | f + 1, p, s, _, h => by
    obtain ⟨lo, hi, ls⟩ := p
    obtain ⟨pc, len, i1, i2, ask⟩ := h
    simp only at pc len i1 i2 ask
    obtain ⟨oa, ga⟩ : ∃ o, ls[s.one]? = some o := ⟨_, List.getElem?_eq_getElem i1⟩
    obtain ⟨ob, gb⟩ : ∃ o, ls[s.two]? = some o := ⟨_, List.getElem?_eq_getElem i2⟩
    have la := lnAt_some ga
    have lb := lnAt_some gb
    have single : ∀ x : Option Lne, (∀ r, Rat r → inP lo hi r → x = stepAt r ls s) → AdvRes (lo, hi, ls) s [(lo, hi, ls ++ [x])] 0 := fun x hx => by
      refine ⟨fun q hq => ?_, fun z => ⟨rfl, rfl, z⟩, fun z => ⟨ls ++ [x], by simp only at z; rw [← z]⟩, by simp⟩
      simp at hq
      subst hq
      exact ⟨pc, fun r hr hp => ⟨by show ls ++ [x] = ls ++ [stepAt r ls s]; rw [hx r hr hp], hp⟩⟩
    cases oa with
    | none =>
      refine ⟨0, by omega, fun _ _ _ _ => by omega, ?_⟩
      have e : advL (f + 1) (lo, hi, ls) s = [(lo, hi, ls ++ [none])] := by simp only [advL_succ, la]
      rw [e]
      exact single none fun r _ _ => by unfold stepAt; rw [la]
    | some a =>
      cases ob with
      | none =>
        refine ⟨0, by omega, fun _ _ _ _ => by omega, ?_⟩
        have e : advL (f + 1) (lo, hi, ls) s = [(lo, hi, ls ++ [none])] := by simp only [advL_succ, la, lb]
        rw [e]
        exact single none fun r _ _ => by unfold stepAt; rw [la, lb]
      | some b =>
        obtain ⟨sk, hb, hlen, hc⟩ := ask a b ga gb
        cases hr : firstRoot lo hi (askAll (askL s a b)) with
        | none =>
          refine ⟨0, by omega, fun _ _ _ _ => by omega, ?_⟩
          have e : advL (f + 1) (lo, hi, ls) s = [(lo, hi, ls ++ [if goodA lo hi (askL s a b) = true then some (askL s a b).1 else none])] := by simp only [advL_succ, la, lb, hr]
          rw [e]
          refine single _ fun r hr' hp => ?_
          unfold stepAt
          rw [la, lb, goodA_eq pc hr hr' hp]
        | some r =>
          have e : advL (f + 1) (lo, hi, ls) s = (cutAt (lo, hi, ls) r).flatMap fun q => advL f q s := by simp only [advL_succ, la, lb, hr]
          obtain ⟨l, hl, el⟩ := firstRoot_some hr
          obtain ⟨e1, e2, e3⟩ := rootIn_some el
          have hp := rootL_pos e1
          have hB := rootL_LB (hb l hl) e1
          obtain ⟨c1, c2, c3⟩ := cnt_cut pc hr hp e2 e3
          obtain ⟨o1, o2, o3⟩ := cut_ok pc hp hB (rootL_red e1) e2 e3
          have cs := cnt_sum pc hr hp e2 e3
          have f1 : 1 ≤ f := by omega
          obtain ⟨d1, _, D1, R1⟩ := adv_res f (lo, r, ls) s f1 ⟨o1, len, i1, i2, fun a' b' h1 h2 => by rw [ga] at h1; rw [gb] at h2; cases h1; cases h2; exact ⟨sk, hb, hlen, by show rootCnt lo r _ < f; omega⟩⟩
          obtain ⟨d2, _, D2, R2⟩ := adv_res f (r, r, ls) s f1 ⟨o2, len, i1, i2, fun a' b' h1 h2 => by rw [ga] at h1; rw [gb] at h2; cases h1; cases h2; exact ⟨sk, hb, hlen, by show rootCnt r r _ < f; omega⟩⟩
          obtain ⟨d3, _, D3, R3⟩ := adv_res f (r, hi, ls) s f1 ⟨o3, len, i1, i2, fun a' b' h1 h2 => by rw [ga] at h1; rw [gb] at h2; cases h1; cases h2; exact ⟨sk, hb, hlen, by show rootCnt r hi _ < f; omega⟩⟩
          have D1 := D1 a b ga gb
          have D3 := D3 a b ga gb
          obtain ⟨x, ex⟩ := R2.pt rfl
          simp only at ex D1 D3
          have e4 : advL (f + 1) (lo, hi, ls) s = advL f (lo, r, ls) s ++ (r, r, x) :: advL f (r, hi, ls) s := by
            rw [e]
            simp only [cutAt, List.flatMap_cons, List.flatMap_nil, ex, List.append_nil, List.cons_append, List.nil_append]
          have lh : lessR lo hi = true := lessR_trans pc.l2 hp.2 pc.h2 e2 e3
          have hlo : 0 ≤ lo.1 ∧ 0 < lo.2 := ⟨pc.l1, pc.l2⟩
          have hhi : 0 < hi.1 ∧ 0 ≤ hi.2 := ⟨pc.h1, pc.h2⟩
          have nlt : lo ≠ r := fun z => by rw [z, lessR_irr] at e2; cases e2
          have ngt : r ≠ hi := fun z => by rw [z, lessR_irr] at e3; cases e3
          have sub1 : ∀ z, Rat z → inP lo r z → inP lo hi z := fun z hz h => by
            rcases h with ⟨z1, _⟩ | ⟨z1, z2⟩
            · exact absurd z1 nlt
            · exact .inr ⟨z1, lessR_trans hz.2 hp.2 pc.h2 z2 e3⟩
          have sub3 : ∀ z, Rat z → inP r hi z → inP lo hi z := fun z hz h => by
            rcases h with ⟨z1, _⟩ | ⟨z1, z2⟩
            · exact absurd z1 ngt
            · exact .inr ⟨lessR_trans pc.l2 hp.2 (by have := hz.2; omega) e2 z1, z2⟩
          have sub2 : ∀ z, Rat z → inP r r z → inP lo hi z := fun z hz h => by
            rcases h with ⟨_, sz⟩ | ⟨z1, z2⟩
            · have n1 : ¬ lessR z r = true := by rw [lessR_iff]; unfold sameR at sz; omega
              have n2 : ¬ lessR r z = true := by rw [lessR_iff]; unfold sameR at sz; omega
              exact .inr ⟨lessR_trans3 hlo hp ⟨hz.1, by have := hz.2; omega⟩ e2 n1, lessR_trans2 ⟨by have := hz.1; omega, hz.2⟩ hp hhi n2 e3⟩
            · have := lessR_trans hp.2 hz.2 (by have := hp.2; omega) z1 z2
              rw [lessR_irr] at this
              cases this
          refine ⟨d1 + d3 + 1, ?_, fun a' b' h1 h2 => ?_, ?_⟩
          · have : rootCnt lo hi (askAll (askL s a b)) ≤ 6 := by
              unfold rootCnt
              exact Nat.le_trans (List.length_filter_le _ _) hlen
            omega
          · rw [ga] at h1; rw [gb] at h2; cases h1; cases h2
            show d1 + d3 + 1 ≤ rootCnt lo hi _
            omega
          · rw [e4]
            refine ⟨fun q hq => ?_, fun _ => chn_app (m := r) (q := (r, r, x)) rfl rfl (R3.ch e3) (R1.ch e2), fun z => ?_, ?_⟩
            · rcases List.mem_append.mp hq with hq | hq
              · exact ⟨(R1.pc q hq).1, fun z hz hin => ⟨((R1.pc q hq).2 z hz hin).1, sub1 z hz ((R1.pc q hq).2 z hz hin).2⟩⟩
              · rcases List.mem_cons.mp hq with rfl | hq
                · have R := R2.pc (r, r, x) (by rw [ex]; exact .head _)
                  exact ⟨R.1, fun z hz hin => ⟨(R.2 z hz hin).1, sub2 z hz (R.2 z hz hin).2⟩⟩
                · exact ⟨(R3.pc q hq).1, fun z hz hin => ⟨((R3.pc q hq).2 z hz hin).1, sub3 z hz ((R3.pc q hq).2 z hz hin).2⟩⟩
            · simp only at z
              rw [z, lessR_irr] at lh
              cases lh
            · have n1 := R1.ct
              have n3 := R3.ct
              simp only [List.length_append, List.length_cons]
              omega
end Lk

set_option Elab.async false
set_option linter.all false
set_option maxRecDepth 100000
set_option maxHeartbeats 4000000
/-! QG: the lines of a plan at a ratio: kinds, bounds, divisors. -/
namespace Lk
open PySem Fo
def EL : List (Option Lne) := [some (.U, NON), some (.L, NON), some (.U, WID), some (.L, HEI)]
/-- lines, steps further -/
def SLf (r : Ln) : List (Option Lne) → List St → List (Option Lne)
  | ls, [] => ls
  | ls, s :: t => SLf r (ls ++ [stepAt r ls s]) t
def SL (r : Ln) (sts : List St) : List (Option Lne) := SLf r EL sts
theorem SLf_app (r : Ln) : ∀ (a b : List St) (ls : List (Option Lne)), SLf r ls (a ++ b) = SLf r (SLf r ls a) b
  | [], b, ls => rfl
  | s :: a, b, ls => SLf_app r a b _
theorem SL_snoc (r : Ln) (sts : List St) (s : St) : SL r (sts ++ [s]) = SL r sts ++ [stepAt r (SL r sts) s] := by
  unfold SL
  rw [SLf_app]
  rfl
/-- divided by -/
def Dv (d : Int) (l : Ln) : Prop := d ∣ l.1 ∧ d ∣ l.2
theorem Dv.plus {d : Int} {a b : Ln} (h1 : Dv d a) (h2 : Dv d b) : Dv d (plusL a b) := ⟨Int.dvd_add h1.1 h2.1, Int.dvd_add h1.2 h2.2⟩
theorem Dv.minus {d : Int} {a b : Ln} (h1 : Dv d a) (h2 : Dv d b) : Dv d (minusL a b) := ⟨Int.dvd_sub h1.1 h2.1, Int.dvd_sub h1.2 h2.2⟩
theorem Dv.twice {d : Int} {a : Ln} (h1 : Dv d a) : Dv d (twiceL a) := ⟨Int.dvd_mul_of_dvd_right h1.1, Int.dvd_mul_of_dvd_right h1.2⟩
theorem Dv.less {d : Int} {a : Ln} (h : Dv (6 * d) a) : Dv d a := ⟨Int.dvd_trans (Int.dvd_mul_left 6 d) h.1, Int.dvd_trans (Int.dvd_mul_left 6 d) h.2⟩
theorem fdiv_dvd {d x k : Int} (hk : k = 2 ∨ k = 3) (h : 6 * d ∣ x) : d ∣ x.fdiv k ∧ k * x.fdiv k = x := by
  obtain ⟨c, rfl⟩ := h
  rcases hk with rfl | rfl
  · have e : (6 * d * c).fdiv 2 = d * (3 * c) := by
      rw [Int.fdiv_eq_ediv_of_nonneg _ (by decide)]
      have : 6 * d * c = 2 * (d * (3 * c)) := by rw [Int.mul_left_comm d 3 c, ← Int.mul_assoc, Int.mul_assoc 6 d c]; rfl
      rw [this, Int.mul_ediv_cancel_left _ (by decide)]
    rw [e]
    exact ⟨⟨_, rfl⟩, by rw [Int.mul_left_comm d 3 c, ← Int.mul_assoc, Int.mul_assoc 6 d c]; rfl⟩
  · have e : (6 * d * c).fdiv 3 = d * (2 * c) := by
      rw [Int.fdiv_eq_ediv_of_nonneg _ (by decide)]
      have : 6 * d * c = 3 * (d * (2 * c)) := by rw [Int.mul_left_comm d 2 c, ← Int.mul_assoc, Int.mul_assoc 6 d c]; rfl
      rw [this, Int.mul_ediv_cancel_left _ (by decide)]
    rw [e]
    exact ⟨⟨_, rfl⟩, by rw [Int.mul_left_comm d 2 c, ← Int.mul_assoc, Int.mul_assoc 6 d c]; rfl⟩
theorem Dv.shared {d k : Int} {a : Ln} (hk : k = 2 ∨ k = 3) (h : Dv (6 * d) a) : Dv d (sharedL a k) := ⟨(fdiv_dvd hk h.1).1, (fdiv_dvd hk h.2).1⟩
theorem shared_worth {d k : Int} {a : Ln} (r : Ln) (hk : k = 2 ∨ k = 3) (h : Dv (6 * d) a) : k * worthL (sharedL a k) r = worthL a r := by
  have h1 := (fdiv_dvd hk h.1).2
  have h2 := (fdiv_dvd hk h.2).2
  unfold worthL sharedL
  simp only
  rw [Int.mul_add, ← Int.mul_assoc, ← Int.mul_assoc, h1, h2]
theorem Dv_WID : Dv 46656 WID ∧ Dv 46656 HEI ∧ Dv 46656 NON := by
  refine ⟨⟨?_, ?_⟩, ⟨?_, ?_⟩, ⟨?_, ?_⟩⟩ <;> decide
theorem LB.plus {m n : Int} {a b : Ln} (h1 : LB m a) (h2 : LB n b) : LB (m + n) (plusL a b) := by unfold LB plusL at *; simp only; omega
theorem LB.minus {m n : Int} {a b : Ln} (h1 : LB m a) (h2 : LB n b) : LB (m + n) (minusL a b) := by unfold LB minusL at *; simp only; omega
theorem LB.twice {m : Int} {a : Ln} (h1 : LB m a) : LB (2 * m) (twiceL a) := by unfold LB twiceL at *; simp only; omega
theorem LB.shared {m k : Int} {a : Ln} (hk : k = 2 ∨ k = 3) (h1 : LB m a) : LB m (sharedL a k) := by
  have e : ∀ x : Int, x.fdiv 2 = x / 2 ∧ x.fdiv 3 = x / 3 := fun x => ⟨Int.fdiv_eq_ediv_of_nonneg x (by decide), Int.fdiv_eq_ediv_of_nonneg x (by decide)⟩
  unfold LB sharedL at *
  rcases hk with rfl | rfl <;> simp only [(e _).1, (e _).2] <;> omega
theorem LB_WID : LB 46656 WID ∧ LB 46656 HEI ∧ LB 46656 NON := by unfold LB WID HEI NON; decide
theorem cross_LB {m : Int} {k1 k2 : Kd} {p1 p2 : Ln} (h1 : LB m p1) (h2 : LB m p2) (hm : 0 ≤ m) : LB (2 * m) (crossL k1 p1 k2 p2).1 ∧ LB (2 * m) (crossL k1 p1 k2 p2).2 := by
  have a1 : LB (2 * m) p1 := h1.mono (by omega)
  have a2 : LB (2 * m) p2 := h2.mono (by omega)
  have c1 : LB (2 * m) (plusL p1 p2) := (h1.plus h2).mono (by omega)
  have c2 : LB (2 * m) (plusL p2 p1) := (h2.plus h1).mono (by omega)
  have c3 : LB (2 * m) (minusL p1 p2) := (h1.minus h2).mono (by omega)
  have c4 : LB (2 * m) (minusL p2 p1) := (h2.minus h1).mono (by omega)
  have d1 := c1.shared (k := 2) (.inl rfl)
  have d2 := c2.shared (k := 2) (.inl rfl)
  have d3 := c3.shared (k := 2) (.inl rfl)
  have d4 := c4.shared (k := 2) (.inl rfl)
  cases k1 <;> cases k2 <;> simp only [crossL] <;> constructor <;> assumption
theorem cross_Dv {d : Int} {k1 k2 : Kd} {p1 p2 : Ln} (h1 : Dv (6 * d) p1) (h2 : Dv (6 * d) p2) : Dv d (crossL k1 p1 k2 p2).1 ∧ Dv d (crossL k1 p1 k2 p2).2 := by
  have a1 := h1.less
  have a2 := h2.less
  have c1 := (h1.plus h2).less
  have c2 := (h2.plus h1).less
  have c3 := (h1.minus h2).less
  have c4 := (h2.minus h1).less
  have d1 := (h1.plus h2).shared (k := 2) (.inl rfl)
  have d2 := (h2.plus h1).shared (k := 2) (.inl rfl)
  have d3 := (h1.minus h2).shared (k := 2) (.inl rfl)
  have d4 := (h2.minus h1).shared (k := 2) (.inl rfl)
  cases k1 <;> cases k2 <;> simp only [crossL] <;> constructor <;> assumption
theorem pick_P {α : Type} {P : α → Prop} {a b c d : α} (k : Kd) (h1 : P a) (h2 : P b) (h3 : P c) (h4 : P d) : P (pickK a b c d k) := by cases k <;> assumption
theorem inside_LB {m : Int} {l : Lne} (h : LB m l.2) (hm : 46656 ≤ m) : ∀ x ∈ insideL l, LB (m + 93312) x := by
  intro x hx
  obtain ⟨w1, w2, w3⟩ := LB_WID
  simp only [insideL, List.mem_cons, List.not_mem_nil, or_false] at hx
  rcases hx with rfl | rfl
  · refine (h.minus (n := 93312) ?_).mono (by omega)
    exact pick_P (P := LB 93312) l.1 (w3.mono (by omega)) (w3.mono (by omega)) ((w3.minus w2).mono (by omega)) (w3.mono (by omega))
  · have := LB.minus (m := 93312) (n := m) (a := pickK WID HEI WID (plusL WID HEI) l.1) (b := l.2) (pick_P (P := LB 93312) l.1 (w1.mono (by omega)) (w2.mono (by omega)) (w1.mono (by omega)) ((w1.plus w2).mono (by omega))) h
    exact this.mono (by omega)
/-- what a step asks is bounded -/
theorem ask_LB {m : Int} {s : St} {a b : Lne} (h1 : LB m a.2) (h2 : LB m b.2) (hm : 46656 ≤ m) : LB (4 * m) (askL s a b).1.2 ∧ (∀ x ∈ askAll (askL s a b), LB (6 * m) x) ∧ (askAll (askL s a b)).length ≤ 6 := by
  obtain ⟨w1, w2, w3⟩ := LB_WID
  have fin : ∀ l : Lne, LB (4 * m) l.2 → ∀ x ∈ insideL l, LB (6 * m) x := fun l hl x hx => (inside_LB hl (by omega) x hx).mono (by omega)
  have il : ∀ l : Lne, (insideL l).length = 2 := fun _ => rfl
  cases s with
  | thr i j k =>
    obtain ⟨c1, c2⟩ := cross_LB (k1 := a.1) (k2 := b.1) h1 h2 (by omega)
    have hl : LB (4 * m) (throughL (crossL a.1 a.2 b.1 b.2) k).2 := by
      unfold throughL
      exact pick_P (P := LB (4 * m)) k (c1.mono (by omega)) (c2.mono (by omega)) ((c1.minus c2).mono (by omega)) ((c1.plus c2).mono (by omega))
    refine ⟨hl, fun x hx => ?_, by simp [askAll, askL, il]⟩
    simp only [askAll, askL, List.nil_append, List.cons_append, List.mem_cons] at hx
    rcases hx with rfl | rfl | rfl | rfl | hx
    · exact c1.mono (by omega)
    · exact (w1.minus c1).mono (by omega)
    · exact c2.mono (by omega)
    · exact (w2.minus c2).mono (by omega)
    · exact fin _ hl x hx
  | mir i j =>
    have hl : LB (4 * m) (imageL a b).2 := by
      obtain ⟨k1, p1⟩ := a
      obtain ⟨k2, p2⟩ := b
      have t1 : LB (4 * m) (minusL (twiceL p2) p1) := (h2.twice.minus h1).mono (by omega)
      have t2 : LB (4 * m) (minusL p1 (twiceL p2)) := (h1.minus h2.twice).mono (by omega)
      have t3 : LB (4 * m) (plusL p1 (twiceL p2)) := (h1.plus h2.twice).mono (by omega)
      have t4 : LB (4 * m) (minusL p1 p2) := (h1.minus h2).mono (by omega)
      have t5 : LB (4 * m) (minusL p2 p1) := (h2.minus h1).mono (by omega)
      have t6 : LB (4 * m) (plusL p1 p2) := (h1.plus h2).mono (by omega)
      have t7 : LB (4 * m) p1 := h1.mono (by omega)
      cases k1 <;> cases k2 <;> simp only [imageL] <;> assumption
    refine ⟨hl, fun x hx => ?_, by simp [askAll, askL, il]⟩
    simp only [askAll, askL, List.nil_append] at hx
    exact fin _ hl x hx
  | mid i j =>
    have g := h2.minus h1
    have hl : LB (4 * m) (plusL a.2 (sharedL (minusL b.2 a.2) 2)) := (h1.plus (g.shared (.inl rfl))).mono (by omega)
    refine ⟨hl, fun x hx => ?_, by simp [askAll, askL, il]⟩
    simp only [askAll, askL, List.append_nil, List.cons_append, List.nil_append, List.mem_cons] at hx
    rcases hx with rfl | hx
    · exact g.mono (by omega)
    · exact fin (a.1, _) hl x hx
  | thd i j =>
    have g := h2.minus h1
    have hl : LB (4 * m) (plusL a.2 (sharedL (minusL b.2 a.2) 3)) := (h1.plus (g.shared (.inr rfl))).mono (by omega)
    refine ⟨hl, fun x hx => ?_, by simp [askAll, askL, il]⟩
    simp only [askAll, askL, List.append_nil, List.cons_append, List.nil_append, List.mem_cons] at hx
    rcases hx with rfl | hx
    · exact g.mono (by omega)
    · exact fin (a.1, _) hl x hx
theorem ask_Dv {d : Int} {s : St} {a b : Lne} (h1 : Dv (6 * d) a.2) (h2 : Dv (6 * d) b.2) : Dv d (askL s a b).1.2 := by
  cases s with
  | thr i j k =>
    obtain ⟨c1, c2⟩ := cross_Dv (k1 := a.1) (k2 := b.1) h1 h2
    exact pick_P (P := Dv d) k c1 c2 (c1.minus c2) (c1.plus c2)
  | mir i j =>
    obtain ⟨k1, p1⟩ := a
    obtain ⟨k2, p2⟩ := b
    have h1 := h1.less
    have h2 := h2.less
    have t1 := h2.twice.minus h1
    have t2 := h1.minus h2.twice
    have t3 := h1.plus h2.twice
    have t4 := h1.minus h2
    have t5 := h2.minus h1
    have t6 := h1.plus h2
    cases k1 <;> cases k2 <;> simp only [askL, imageL] <;> assumption
  | mid i j => exact h1.less.plus ((h2.minus h1).shared (.inl rfl))
  | thd i j => exact h1.less.plus ((h2.minus h1).shared (.inr rfl))
/-- lines with kinds, so great, divided -/
structure LOk (ks : List Kd) (m d : Int) (ls : List (Option Lne)) : Prop where
  k : LinesK ks ls
  b : ∀ l, some l ∈ ls → LB m l.2
  v : ∀ l, some l ∈ ls → Dv d l.2
theorem lnAt_get {ls : List (Option Lne)} {i : Nat} {l : Lne} (h : lnAt ls i = some l) : ls[i]? = some (some l) := by
  unfold lnAt at h
  cases e : ls[i]? with
  | none => rw [e] at h; cases h
  | some o => rw [e] at h; simp at h; rw [h]
theorem step_ok {ks : List Kd} {m d : Int} {ls : List (Option Lne)} {s : St} {k : Kd} (r : Ln) (h : LOk ks m (6 * d) ls) (hs : s.kind ks = some k) (hm : 46656 ≤ m) : LOk (ks ++ [k]) (4 * m) d (ls ++ [stepAt r ls s]) := by
  obtain ⟨hk, hb, hv⟩ := h
  have new : ∀ l, stepAt r ls s = some l → l.1 = k ∧ LB (4 * m) l.2 ∧ Dv d l.2 := by
    intro l hl
    unfold stepAt at hl
    split at hl
    · rename_i a b ea eb
      have ga := lnAt_get ea
      have gb := lnAt_get eb
      split at hl
      · cases hl
        have ma := List.mem_of_getElem? ga
        have mb := List.mem_of_getElem? gb
        exact ⟨(st_ok hs hk ga gb).2, (ask_LB (hb _ ma) (hb _ mb) hm).1, ask_Dv (hv _ ma) (hv _ mb)⟩
      · cases hl
    · cases hl
  refine ⟨⟨by simp [hk.1], fun i l hi => ?_⟩, fun l hl => ?_, fun l hl => ?_⟩
  · by_cases z : i < ls.length
    · rw [List.getElem?_append_left z] at hi
      have := hk.2 i l hi
      rw [this]
      unfold kat
      rw [List.getD_eq_getElem?_getD, List.getD_eq_getElem?_getD, List.getElem?_append_left (by rw [← hk.1]; exact z)]
    · by_cases z2 : i = ls.length
      · subst z2
        simp at hi
        rw [(new l hi).1]
        unfold kat
        rw [List.getD_eq_getElem?_getD, hk.1]
        simp
      · rw [List.getElem?_eq_none (by simp; omega)] at hi
        cases hi
  · rcases List.mem_append.mp hl with hl | hl
    · exact (hb l hl).mono (by omega)
    · simp at hl
      exact (new l hl.symm).2.1
  · rcases List.mem_append.mp hl with hl | hl
    · exact (hv l hl).less
    · simp at hl
      exact (new l hl.symm).2.2
end Lk

set_option Elab.async false
set_option linter.all false
set_option maxRecDepth 100000
set_option maxHeartbeats 4000000
/-! QH: course. -/
namespace Lk
open PySem Fo
def stepP (ps : List Pce) (s : St) : List Pce := ps.flatMap fun p => advL 7 p s
def courseF : List Pce → List St → List Pce
  | ps, [] => ps
  | ps, s :: t => courseF (stepP ps s) t
def LOW : Ln := (0, 1)
def HIG : Ln := (1, 0)
def startP : List Pce := [(LOW, HIG, EL)]
def courseL (sts : List St) : List Pce := courseF startP sts
structure CInv (sts : List St) (ks : List Kd) (ps : List Pce) (m d : Int) (N : Nat) : Prop where
  ch : Chn LOW HIG ps
  ln : ps.length + 1 ≤ N
  pc : ∀ p ∈ ps, PieceOk p.1 p.2.1 ∧ LOk ks m d p.2.2 ∧ ∀ r, Rat r → inP p.1 p.2.1 r → p.2.2 = SL r sts
theorem adv_ok {ks : List Kd} {m d : Int} {p : Pce} {s : St} {k : Kd} (h1 : PieceOk p.1 p.2.1) (h2 : LOk ks m d p.2.2) (hs : s.kind ks = some k) (hl : ks.length ≤ 1000) (hm : 46656 ≤ m) (hm2 : 6 * m ≤ M0) : AdvOk 7 p s := by
  obtain ⟨i1, i2⟩ := st_in hs
  refine ⟨h1, by rw [h2.k.1]; exact hl, by rw [h2.k.1]; exact i1, by rw [h2.k.1]; exact i2, fun a b ha hb => ?_⟩
  have A := ask_LB (s := s) (h2.b a (List.mem_of_getElem? ha)) (h2.b b (List.mem_of_getElem? hb)) hm
  refine ⟨(st_ok hs h2.k ha hb).1, fun l hl => (A.2.1 l hl).mono hm2, A.2.2, ?_⟩
  have := A.2.2
  unfold rootCnt
  exact Nat.lt_of_le_of_lt (Nat.le_trans (List.length_filter_le _ _) this) (by decide)
theorem chn_flat {g : Pce → List Pce} : ∀ {ps : List Pce} {lo hi : Ln}, Chn lo hi ps → (∀ p ∈ ps, (lessR p.1 p.2.1 = true → Chn p.1 p.2.1 (g p)) ∧ (p.1 = p.2.1 → ∃ x, g p = [(p.1, p.1, x)])) → Chn lo hi (ps.flatMap g)
  | [], lo, hi, h, _ => h.elim
  | [p], lo, hi, h, H => by
    obtain ⟨a, b, c⟩ := h
    have := (H p (.head _)).1 (by rw [a, b]; exact c)
    rw [a, b] at this
    simpa using this
  | p :: q :: rest, lo, hi, h, H => by
    obtain ⟨a, b, c, d, e⟩ := h
    have h1 := (H p (.head _)).1 (by rw [a, b]; exact d)
    rw [a, b] at h1
    obtain ⟨x, hx⟩ := (H q (.tail _ (.head _))).2 c.symm
    have h2 := chn_flat e fun z hz => H z (.tail _ (.tail _ hz))
    have := chn_app (m := q.1) (q := (q.1, q.1, x)) rfl rfl h2 h1
    simp only [List.flatMap_cons, hx]
    exact this
theorem len_flat {g : Pce → List Pce} {N : Nat} : ∀ {ps : List Pce}, (∀ p ∈ ps, (g p).length ≤ N) → (ps.flatMap g).length ≤ ps.length * N
  | [], _ => by simp
  | p :: r, h => by
    have h1 := h p (.head _)
    have h2 := len_flat (ps := r) fun q hq => h q (.tail _ hq)
    simp only [List.flatMap_cons, List.length_append, List.length_cons, Nat.succ_mul]
    omega
theorem len_chn {g : Pce → List Pce} : ∀ {ps : List Pce} {lo hi : Ln}, Chn lo hi ps → (∀ p ∈ ps, (g p).length ≤ 13 ∧ (p.1 = p.2.1 → (g p).length ≤ 1)) → (ps.flatMap g).length + 1 ≤ (ps.length + 1) * 7
  | [], lo, hi, h, _ => h.elim
  | [p], lo, hi, h, H => by
    have := (H p (.head _)).1
    simp
    omega
  | p :: q :: rest, lo, hi, h, H => by
    obtain ⟨a, b, c, d, e⟩ := h
    have h1 := (H p (.head _)).1
    have h2 := (H q (.tail _ (.head _))).2 c.symm
    have h3 := len_chn e fun z hz => H z (.tail _ (.tail _ hz))
    simp only [List.flatMap_cons, List.length_append, List.length_cons]
    omega
theorem inv_step {sts : List St} {ks : List Kd} {ps : List Pce} {m d : Int} {N : Nat} {s : St} {k : Kd} (h : CInv sts ks ps m (6 * d) N) (hs : s.kind ks = some k) (hl : ks.length ≤ 1000) (hm : 46656 ≤ m) (hm2 : 6 * m ≤ M0) :
    CInv (sts ++ [s]) (ks ++ [k]) (stepP ps s) (4 * m) d (N * 7) := by
  have R : ∀ p ∈ ps, ∃ c, c ≤ 6 ∧ AdvRes p s (advL 7 p s) c := fun p hp => by
    obtain ⟨c, h1, _, h3⟩ := adv_res 7 p s (by decide) (adv_ok (h.pc p hp).1 (h.pc p hp).2.1 hs hl hm hm2)
    exact ⟨c, h1, h3⟩
  refine ⟨chn_flat h.ch fun p hp => ?_, ?_, fun q hq => ?_⟩
  · obtain ⟨c, _, A⟩ := R p hp
    exact ⟨A.ch, A.pt⟩
  · have := len_chn (g := fun p => advL 7 p s) h.ch fun p hp => by
      obtain ⟨c, h1, A⟩ := R p hp
      have h2 := A.ct
      refine ⟨by omega, fun z => ?_⟩
      obtain ⟨x, hx⟩ := A.pt z
      rw [hx]
      exact Nat.le_refl _
    exact Nat.le_trans this (Nat.mul_le_mul_right _ h.ln)
  · obtain ⟨p, hp, hq⟩ := List.mem_flatMap.mp hq
    obtain ⟨c, _, A⟩ := R p hp
    obtain ⟨q1, q2⟩ := A.pc q hq
    obtain ⟨p1, p2, p3⟩ := h.pc p hp
    refine ⟨q1, ?_, fun r hr hin => ?_⟩
    · obtain ⟨i1, i2⟩ := inner_in q1
      rw [(q2 _ i1 i2).1]
      exact step_ok _ p2 hs hm
    · obtain ⟨e, hin'⟩ := q2 r hr hin
      rw [e, SL_snoc, ← p3 r hr hin']
theorem inv_start : CInv [] E0 startP 46656 46656 2 := by
  refine ⟨⟨rfl, rfl, by decide⟩, by decide, fun p hp => ?_⟩
  simp [startP] at hp
  subst hp
  refine ⟨⟨by decide, by decide, by decide, by decide, by decide, by decide, by decide, by decide, .inl (by decide), by decide, by decide⟩, ⟨⟨rfl, fun i l hi => ?_⟩, fun l hl => ?_, fun l hl => ?_⟩, fun r _ _ => rfl⟩
  · match i, hi with
    | 0, hi => cases hi; rfl
    | 1, hi => cases hi; rfl
    | 2, hi => cases hi; rfl
    | 3, hi => cases hi; rfl
    | i + 4, hi => simp [EL] at hi
  · obtain ⟨w1, w2, w3⟩ := LB_WID
    simp [EL] at hl
    rcases hl with rfl | rfl | rfl | rfl <;> assumption
  · obtain ⟨w1, w2, w3⟩ := Dv_WID
    simp [EL] at hl
    rcases hl with rfl | rfl | rfl | rfl <;> assumption
/-- all along a plan -/
theorem inv_all : ∀ (t sts : List St) (ks ks' : List Kd) (ps : List Pce) (j : Nat), CInv sts ks ps (46656 * 4 ^ j) (6 ^ (t.length + (6 - (j + t.length)))) (2 * 7 ^ j) → kindsP ks t = some ks' → j + t.length ≤ 6 → ks.length = 4 + j →
    CInv (sts ++ t) ks' (courseF ps t) (46656 * 4 ^ (j + t.length)) (6 ^ (6 - (j + t.length))) (2 * 7 ^ (j + t.length))
  | [], sts, ks, ks', ps, j, h, hk, hj, hl => by
    cases hk
    simpa [courseF] using h
  | s :: t, sts, ks, ks', ps, j, h, hk, hj, hl => by
    rw [kindsP_cons] at hk
    simp only [List.length_cons] at hj h ⊢
    cases e : s.kind ks with
    | none => rw [e] at hk; cases hk
    | some k =>
      rw [e] at hk
      have hk : kindsP (ks ++ [k]) t = some ks' := hk
      have e6 : (6 : Int) ^ (t.length + 1 + (6 - (j + (t.length + 1)))) = 6 * 6 ^ (t.length + (6 - (j + 1 + t.length))) := by
        have : t.length + 1 + (6 - (j + (t.length + 1))) = (t.length + (6 - (j + 1 + t.length))) + 1 := by omega
        rw [this, Int.pow_succ, Int.mul_comm]
      rw [e6] at h
      have b1 : (4 : Int) ^ j ≤ 4 ^ 5 := by
        have : (4 : Nat) ^ j ≤ 4 ^ 5 := Nat.pow_le_pow_right (by decide) (by omega)
        exact_mod_cast this
      have b0 : (1 : Int) ≤ 4 ^ j := by
        have : 1 ≤ (4 : Nat) ^ j := Nat.one_le_pow _ _ (by decide)
        exact_mod_cast this
      have b2 : (4 : Int) ^ 5 = 1024 := by decide
      have h2 := inv_step h e (by omega) (by omega) (by unfold M0; omega)
      have e4 : (4 : Int) * (46656 * 4 ^ j) = 46656 * 4 ^ (j + 1) := by rw [Int.pow_succ]; omega
      have e13 : 2 * 7 ^ j * 7 = 2 * 7 ^ (j + 1) := by rw [Nat.pow_succ, Nat.mul_assoc]
      rw [e4, e13] at h2
      have := inv_all t (sts ++ [s]) (ks ++ [k]) ks' (stepP ps s) (j + 1) h2 hk (by omega) (by simp; omega)
      have q : j + (t.length + 1) = j + 1 + t.length := by omega
      rw [q]
      simpa [courseF] using this
end Lk

set_option Elab.async false
set_option linter.all false
set_option maxRecDepth 100000
set_option maxHeartbeats 4000000
/-! QI: course, run. -/
namespace Lk
open PySem Fo
theorem q7 : Q.glb 7 = some (.tuple (EL.map encO)) := rfl
theorem q8 : Q.glb 8 = some (encR LOW) := rfl
theorem q9 : Q.glb 9 = some (encR HIG) := rfl
theorem inv_one {sts : List St} {ks : List Kd} {ps : List Pce} {j : Nat} {s : St} {k : Kd} (h : CInv sts ks ps (46656 * 4 ^ j) (6 ^ (6 - j)) (2 * 7 ^ j)) (hs : s.kind ks = some k) (hj : j < 6) (hl : ks.length = 4 + j) :
    CInv (sts ++ [s]) (ks ++ [k]) (stepP ps s) (46656 * 4 ^ (j + 1)) (6 ^ (6 - (j + 1))) (2 * 7 ^ (j + 1)) := by
  have e6 : (6 : Int) ^ (6 - j) = 6 * 6 ^ (6 - (j + 1)) := by
    have : 6 - j = (6 - (j + 1)) + 1 := by omega
    rw [this, Int.pow_succ, Int.mul_comm]
  rw [e6] at h
  have b1 : (4 : Int) ^ j ≤ 4 ^ 5 := by
    have : (4 : Nat) ^ j ≤ 4 ^ 5 := Nat.pow_le_pow_right (by decide) (by omega)
    exact_mod_cast this
  have b0 : (1 : Int) ≤ 4 ^ j := by
    have : 1 ≤ (4 : Nat) ^ j := Nat.one_le_pow _ _ (by decide)
    exact_mod_cast this
  have b2 : (4 : Int) ^ 5 = 1024 := by decide
  have h2 := inv_step h hs (by omega) (by omega) (by unfold M0; omega)
  have e4 : (4 : Int) * (46656 * 4 ^ j) = 46656 * 4 ^ (j + 1) := by rw [Int.pow_succ]; omega
  have e13 : 2 * 7 ^ j * 7 = 2 * 7 ^ (j + 1) := by rw [Nat.pow_succ, Nat.mul_assoc]
  rw [e4, e13] at h2
  exact h2
theorem inv_adv {sts : List St} {ks : List Kd} {ps : List Pce} {j : Nat} {s : St} {k : Kd} (h : CInv sts ks ps (46656 * 4 ^ j) (6 ^ (6 - j)) (2 * 7 ^ j)) (hs : s.kind ks = some k) (hj : j < 6) (hl : ks.length = 4 + j) : ∀ p ∈ ps, AdvOk 7 p s ∧ (advL 7 p s).length ≤ 13 := by
  have b1 : (4 : Int) ^ j ≤ 4 ^ 5 := by
    have : (4 : Nat) ^ j ≤ 4 ^ 5 := Nat.pow_le_pow_right (by decide) (by omega)
    exact_mod_cast this
  have b0 : (1 : Int) ≤ 4 ^ j := by
    have : 1 ≤ (4 : Nat) ^ j := Nat.one_le_pow _ _ (by decide)
    exact_mod_cast this
  have b2 : (4 : Int) ^ 5 = 1024 := by decide
  intro p hp
  have A := adv_ok (h.pc p hp).1 (h.pc p hp).2.1 hs (by omega) (by omega) (by unfold M0; omega)
  obtain ⟨c, h1, _, h3⟩ := adv_res 7 p s (by decide) A
  have := h3.ct
  exact ⟨A, by omega⟩
def ICo (sts : List St) (ys : List St) (ρ : Rho) : Prop := ∃ (done : List St) (ks ks' : List Kd) (ps : List Pce) (j : Nat) (s2 s3 s4 : Sl), ρ = [.val (.tuple (sts.map St.enc)), .val (.list (ps.map encP)), s2, s3, s4] ∧
  CInv done ks ps (46656 * 4 ^ j) (6 ^ (6 - j)) (2 * 7 ^ j) ∧ kindsP ks ys = some ks' ∧ j + ys.length ≤ 6 ∧ ks.length = 4 + j ∧ courseF ps ys = courseL sts
def ICi (sts : List St) (ps : List Pce) (s : St) (rest : List Pce) (ρ : Rho) : Prop := ∃ (done : List Pce) (s4 : Sl), ps = done ++ rest ∧ ρ = [.val (.tuple (sts.map St.enc)), .val (.list (ps.map encP)), .val s.enc, .val (.list ((done.flatMap fun p => advL 7 p s).map encP)), s4]
theorem r_course (n : Nat) (sts : List St) (hP : Plan sts) (hl : sts.length ≤ 6) : callF Q (n + 14) 74 [.tuple (sts.map St.enc)] = .ok (.list ((courseL sts).map encP), []) := by
  obtain ⟨ks', hk'⟩ := hP
  refine ok_of ?_
  rw [callQ (F := F74) rfl rfl]
  refine wp_fin ?_
  have e0 : PyData.list [.tuple [encR LOW, encR HIG, .tuple (EL.map encO)]] = .list (startP.map encP) := rfl
  simp only [F74]
  simp [Fo.start, ownAt_eq, bindT_name, parS_cons, ownS_list, ownS_dict, isLst, Tg.slots, wipeR, backR, occ, isOwn, pkI_var, evE_lc, q7, q8, q9]
  refine wp_seq (wp_goM (fun ys ρ => ICo sts ys ρ) ?_ ?_ ?_)
  · rintro s ys _ ⟨done, ks, ks', ps, j, s2, s3, s4, rfl, hC, hk, hj, hkl, hc⟩
    simp only [List.length_cons] at hj
    rw [kindsP_cons] at hk
    cases e : s.kind ks with
    | none => rw [e] at hk; cases hk
    | some k =>
      rw [e] at hk
      have hk : kindsP (ks ++ [k]) ys = some ks' := hk
      have A := inv_adv hC e (by omega) hkl
      have b13 : 7 ^ j ≤ 7 ^ 5 := Nat.pow_le_pow_right (by decide) (by omega)
      have b5 : (7 : Nat) ^ 5 = 16807 := by decide
      simp [Fo.start, ownAt_eq, bindT_name, parS_cons, ownS_list, ownS_dict, isLst, Tg.slots, wipeR, backR, occ, isOwn, pkI_var, evE_lc]
      refine wp_seq (wp_goM (fun rest ρ => ICi sts ps s rest ρ) ?_ ?_ ?_)
      · rintro p rest _ ⟨dn, s4, he, rfl⟩
        have hp : p ∈ ps := by rw [he]; simp
        obtain ⟨a1, a2⟩ := A p hp
        have ra := r_advanced 7 n p s (by decide) (by decide) a1
        have ld := len_flat (g := fun p => advL 7 p s) (N := 13) (ps := dn) fun q hq => (A q (by rw [he]; simp [hq])).2
        have ldn : dn.length ≤ 371293 := by
          have := hC.ln
          have e2 := congrArg List.length he
          simp at e2
          omega
        have l1 : (dn.flatMap fun p => advL 7 p s).length + (advL 7 p s).length ≤ 16777216 := by omega
        rw [List.length_flatMap] at l1
        simp [Fo.start, ownAt_eq, bindT_name, parS_cons, ownS_list, ownS_dict, isLst, Tg.slots, wipeR, backR, occ, isOwn, pkI_var, evE_lc, ra, l1]
        exact ⟨dn ++ [p], _, by rw [he]; simp, by simp; rfl⟩
      · rintro _ ⟨dn, s4, he, rfl⟩
        simp at he
        subst he
        simp [Fo.start, ownAt_eq, bindT_name, parS_cons, ownS_list, ownS_dict, isLst, Tg.slots, wipeR, backR, occ, isOwn, pkI_var, evE_lc]
        exact ⟨done ++ [s], ks ++ [k], ks', stepP ps s, j + 1, _, _, _, rfl, inv_one hC e (by omega) hkl, hk, by omega, by simp; omega, hc⟩
      · exact ⟨[], _, rfl, rfl⟩
  · rintro _ ⟨done, ks, ks', ps, j, s2, s3, s4, rfl, hC, hk, hj, hkl, hc⟩
    simp [Fo.start, ownAt_eq, bindT_name, parS_cons, ownS_list, ownS_dict, isLst, Tg.slots, wipeR, backR, occ, isOwn, pkI_var, evE_lc]
    rw [← hc]
    rfl
  · exact ⟨[], E0, ks', startP, 0, _, _, _, rfl, by simpa using inv_start, hk', by omega, rfl, rfl⟩
/-! which steps are made -/
def zipIx (ls : List (Option Lne)) : List (Nat × Option Lne) := (List.range ls.length).zip ls
def encIx (z : Nat × Option Lne) : PyData := .tuple [.int z.1, encO z.2]
theorem enum_map {α : Type} (f : α → PyData) (ls : List α) : enumD (ls.map f) = ((List.range ls.length).zip ls).map fun z => .tuple [.int z.1, f z.2] := by
  unfold enumD
  rw [List.length_map, List.zipWith_map_right, List.map_zip_eq_zipWith]
  rfl
def madeIx (ls : List (Option Lne)) : List Nat := ((zipIx (ls.drop 4)).filter fun z => z.2.isSome).map (·.1)
def encNs (ns : List Nat) : PyData := .tuple (ns.map fun (n : Nat) => .int (n : Int))
end Lk

set_option Elab.async false
set_option linter.all false
set_option maxRecDepth 100000
set_option maxHeartbeats 4000000
/-! QJ: ranges; joined. -/
namespace Lk
open PySem Fo
abbrev Rg := Ln × Bool × Ln × Bool
def encRg (g : Rg) : PyData := .tuple [encR g.1, .bool g.2.1, encR g.2.2.1, .bool g.2.2.2]
def rangeOf (p : Pce) : Rg := (p.1, decide (p.1 = p.2.1), p.2.1, decide (p.1 = p.2.1))
theorem r_range_of (n : Nat) (p : Pce) : callF Q (n + 1) 75 [encP p] = .ok (encRg (rangeOf p), []) := by
  rw [callQ (F := F75) rfl rfl]
  simp [F75, Fo.start, ownAt_eq, bindT_name, parS_cons, ownS_list, ownS_dict, isLst, Tg.slots, wipeR, backR, occ, isOwn, pkI_var, evE_lc, encP, eqv_R, eqOk_R, encRg, rangeOf]
def mergeR (a b : Rg) : Rg := (a.1, a.2.1, b.2.2.1, b.2.2.2)
def joinS {α : Type} [DecidableEq α] (found : List (Rg × α)) (p : Pce × α) : List (Rg × α) := match found.getLast? with
  | some (rg, u) => if u = p.2 then found.dropLast ++ [(mergeR rg (rangeOf p.1), p.2)] else found ++ [(rangeOf p.1, p.2)]
  | none => [(rangeOf p.1, p.2)]
def joinF {α : Type} [DecidableEq α] : List (Rg × α) → List (Pce × α) → List (Rg × α)
  | f, [] => f
  | f, p :: r => joinF (joinS f p) r
def encRow {α : Type} (enc : α → PyData) (r : Rg × α) : PyData := .tuple [encRg r.1, enc r.2]
def encPR {α : Type} (enc : α → PyData) (p : Pce × α) : PyData := .tuple [encP p.1, enc p.2]
theorem joinS_len {α : Type} [DecidableEq α] (f : List (Rg × α)) (p : Pce × α) : (joinS f p).length ≤ f.length + 1 := by
  unfold joinS
  split
  · split
    · simp <;> omega
    · simp
  · simp
theorem atI_last (xs : List PyData) (x : PyData) : L2.atI (xs ++ [x]) (-1) = some x := by
  unfold L2.atI L2.ixN
  rw [if_neg (by decide), if_pos (by simp; omega)]
  simp only [Option.bind_some]
  have : (-1 + ((xs ++ [x]).length : Int)).toNat = xs.length := by simp; omega
  rw [this]
  simp
theorem putSl_last (i : Nat) (xs : List PyData) (x d : PyData) (ρ : Rho) (h : ρ[i]? = some (.own (.list (xs ++ [x])))) : putSl i (.int (-1)) d ρ = .ok (ρ.set i (.own (.list (xs ++ [d])))) := by
  unfold putSl
  rw [h]
  simp only
  have e : L2.ixN (xs ++ [x]).length (-1) = some xs.length := by
    unfold L2.ixN
    rw [if_neg (by decide), if_pos (by simp; omega)]
    congr 1
    simp; omega
  rw [e]
  simp [ofOpt]
theorem eqv_lnil (xs : List PyData) : PyData.eqv (.list xs) (.list []) = xs.isEmpty := by cases xs <;> (unfold PyData.eqv PyData.eqvAll; rfl)
theorem pv_Rn (r : Ln) (N M : Nat) (hM : 2 ≤ M) : PV (N + 1) M (encR r) := pv_mono (pv_R r) (by omega) hM
theorem pv_rg (g : Rg) (N M : Nat) (hM : 4 ≤ M) : PV (N + 2) M (encRg g) := pvx (N := N + 1) (by simp; omega) fun x hx => by
  simp at hx
  rcases hx with rfl | rfl | rfl | rfl
  · exact pv_Rn _ _ _ (by omega)
  · exact pv_bool _ _ _
  · exact pv_Rn _ _ _ (by omega)
  · exact pv_bool _ _ _
section
variable {α : Type} [DecidableEq α]
def IJoin (enc : α → PyData) (rows : List (Pce × α)) (ys : List (Pce × α)) (ρ : Rho) : Prop := ∃ (found : List (Rg × α)) (s2 s3 s4 s5 : Sl), ρ = [.val (.list (rows.map (encPR enc))), .own (.list (found.map (encRow enc))), s2, s3, s4, s5] ∧ joinF found ys = joinF [] rows ∧ found.length + ys.length ≤ 16777000
theorem r_joined (n : Nat) (enc : α → PyData) (hp : ∀ a, PV 10 16777216 (enc a)) (hv : ∀ a b, PyData.eqv (enc a) (enc b) = decide (a = b)) (rows : List (Pce × α)) (hl : rows.length ≤ 16777000) :
    callF Q (n + 2) 76 [.list (rows.map (encPR enc))] = .ok (.list ((joinF [] rows).map (encRow enc)), []) := by
  refine ok_of ?_
  rw [callQ (F := F76) rfl rfl]
  refine wp_fin ?_
  have heq : ∀ a b, eqOk (enc a) (enc b) = true := fun a b => eqOk_pv (hp a) (hp b) (by omega) (by omega)
  have prow : ∀ r : Rg × α, PV 11 16777216 (encRow enc r) := fun r => pvx (N := 10) (by simp) fun x hx => by
    simp at hx
    rcases hx with rfl | rfl
    · exact pv_rg r.1 8 _ (by omega)
    · exact hp _
  have hnil : ∀ f : List (Rg × α), f.length ≤ 16777000 → eqOk (.list (f.map (encRow enc))) (.list []) = true := fun f hf => eqOk_pv (N := 12) (M := 16777216) (pvl (by simp; omega) fun x hx => by
    obtain ⟨r, _, rfl⟩ := List.mem_map.mp hx
    exact prow r) (pvl (N := 0) (M := 0) (by simp) (by simp)) (by omega) (by omega)
  simp only [F76]
  simp [Fo.start, ownAt_eq, bindT_name, parS_cons, ownS_list, ownS_dict, isLst, Tg.slots, wipeR, backR, occ, isOwn, pkI_var, evE_lc]
  refine wp_seq (wp_goM (fun ys ρ => IJoin enc rows ys ρ) ?_ ?_ ?_)
  · rintro ⟨p, v⟩ ys _ ⟨found, s2, s3, s4, s5, rfl, hj, hc⟩
    simp only [List.length_cons] at hc
    have e1 := r_range_of n p
    have ep : encPR enc (p, v) = .tuple [encP p, enc v] := rfl
    have hn := hnil found (by omega)
    have nx : joinF found ((p, v) :: ys) = joinF (joinS found (p, v)) ys := rfl
    rw [nx] at hj
    have jl := joinS_len found (p, v)
    rcases List.eq_nil_or_concat found with rfl | ⟨init, last, rfl⟩
    · simp at hn
      have l1 : (([] : List (Rg × α)).map (encRow enc)).length < 16777216 := by simp
      simp [Fo.start, ownAt_eq, bindT_name, parS_cons, ownS_list, ownS_dict, isLst, Tg.slots, wipeR, backR, occ, isOwn, pkI_var, evE_lc, ep, e1, hn, eqv_lnil, kApp3_ok]
      exact ⟨_, _, _, _, _, by simp [joinS]; exact ⟨rfl, rfl, rfl, rfl, rfl⟩, hj, by omega⟩
    · rw [List.concat_eq_append] at *
      obtain ⟨rg, u⟩ := last
      simp at hn hc
      have l1 : init.length + 1 < 16777216 := by omega
      have al := atI_last (init.map (encRow enc)) (encRow enc (rg, u))
      have er : encRow enc (rg, u) = .tuple [encRg rg, enc u] := rfl
      have ne : ((init.map (encRow enc)) ++ [encRow enc (rg, u)]).isEmpty = false := by simp
      rw [er] at al ne hn
      have ps := fun d ρ h => putSl_last 1 (init.map (encRow enc)) (.tuple [encRg rg, enc u]) d ρ h
      by_cases huv : u = v
      · subst huv
        have js : joinS (init ++ [(rg, u)]) (p, u) = init ++ [(mergeR rg (rangeOf p), u)] := by simp [joinS]
        rw [js] at hj jl
        have g1 : ∀ g : Rg, encRg g = .tuple [encR g.1, .bool g.2.1, encR g.2.2.1, .bool g.2.2.2] := fun _ => rfl
        have er2 : ∀ g : Rg, encRow enc (g, u) = .tuple [encRg g, enc u] := fun _ => rfl
        simp only [er2, g1] at hn al ne ps e1
        simp [Fo.start, ownAt_eq, bindT_name, parS_cons, ownS_list, ownS_dict, isLst, Tg.slots, wipeR, backR, occ, isOwn, pkI_var, evE_lc, ep, e1, er2, g1, hn, eqv_lnil, al, ne, heq, hv, ps]
        exact ⟨init ++ [(mergeR rg (rangeOf p), u)], _, _, _, _, by simp [er2, g1, mergeR]; exact ⟨rfl, rfl, rfl, rfl⟩, hj, by simp; omega⟩
      · have js : joinS (init ++ [(rg, u)]) (p, v) = init ++ [(rg, u)] ++ [(rangeOf p, v)] := by simp [joinS, huv]
        rw [js] at hj jl
        simp [Fo.start, ownAt_eq, bindT_name, parS_cons, ownS_list, ownS_dict, isLst, Tg.slots, wipeR, backR, occ, isOwn, pkI_var, evE_lc, ep, e1, er, hn, eqv_lnil, al, ne, heq, hv, huv, kApp3_ok, l1]
        exact ⟨init ++ [(rg, u)] ++ [(rangeOf p, v)], _, _, _, _, by simp [er]; exact ⟨rfl, rfl, rfl, rfl, rfl⟩, hj, by simp; omega⟩
  · rintro _ ⟨found, s2, s3, s4, s5, rfl, hj, hc⟩
    simp [Fo.start, ownAt_eq, bindT_name, parS_cons, ownS_list, ownS_dict, isLst, Tg.slots, wipeR, backR, occ, isOwn, pkI_var, evE_lc]
    rw [← hj]
    rfl
  · exact ⟨[], _, _, _, _, rfl, rfl, by simpa using hl⟩
end
end Lk

set_option Elab.async false
set_option linter.all false
set_option maxRecDepth 100000
set_option maxHeartbeats 4000000
/-! QK: made_ranges, run. -/
namespace Lk
open PySem Fo
abbrev VNs := { l : List Nat // l.length ≤ 1000 }
def mkV (l : List Nat) : VNs := ⟨l.take 1000, by simp; omega⟩
def encV (v : VNs) : PyData := encNs v.1
theorem encV_mk {l : List Nat} (h : l.length ≤ 1000) : encV (mkV l) = encNs l := by
  unfold encV mkV
  simp only
  rw [List.take_of_length_le h]
theorem pv_Ns (l : List Nat) (N M : Nat) (h : l.length ≤ M) : PV (N + 1) M (encNs l) := pvx (by simpa using h) fun x hx => by
  obtain ⟨n, _, rfl⟩ := List.mem_map.mp hx
  exact pv_int _ _ _
theorem eqv_Ns : ∀ (a b : List Nat), PyData.eqvAll (a.map fun (n : Nat) => .int (n : Int)) (b.map fun (n : Nat) => .int (n : Int)) = decide (a = b)
  | [], [] => by simp [PyData.eqvAll]
  | [], y :: b => by simp [PyData.eqvAll]
  | x :: a, [] => by simp [PyData.eqvAll]
  | x :: a, y :: b => by
    have ih := eqv_Ns a b
    simp only [List.map_cons, PyData.eqvAll, ih, eqv_ii, nat_eq]
    by_cases h1 : x = y <;> by_cases h2 : a = b <;> simp [h1, h2]
theorem eqv_V (a b : VNs) : PyData.eqv (encV a) (encV b) = decide (a = b) := by
  have e : PyData.eqv (encV a) (encV b) = PyData.eqvAll (a.1.map fun (n : Nat) => .int (n : Int)) (b.1.map fun (n : Nat) => .int (n : Int)) := by unfold encV encNs PyData.eqv; rfl
  rw [e, eqv_Ns]
  exact decide_eq_decide.mpr ⟨fun h => Subtype.ext h, fun h => by rw [h]⟩
theorem madeIx_len (ls : List (Option Lne)) : (madeIx ls).length ≤ ls.length := by
  unfold madeIx zipIx
  rw [List.length_map]
  refine Nat.le_trans (List.length_filter_le _ _) ?_
  simp
theorem pow7 {j : Nat} (h : j ≤ 6) : 2 * 7 ^ j ≤ 235298 := by
  have : 7 ^ j ≤ 7 ^ 6 := Nat.pow_le_pow_right (by decide) h
  have e : (7 : Nat) ^ 6 = 117649 := by decide
  omega
theorem course_inv {sts : List St} {ks : List Kd} (hk : kindsP E0 sts = some ks) (hl : sts.length ≤ 6) : CInv sts ks (courseL sts) (46656 * 4 ^ sts.length) (6 ^ (6 - sts.length)) (2 * 7 ^ sts.length) := by
  have := inv_all sts [] E0 ks startP 0 (by simpa [show sts.length + (6 - sts.length) = 6 by omega] using inv_start) hk (by omega) rfl
  simpa [courseL] using this
def rowsOf (sts : List St) : List (Pce × VNs) := (courseL sts).map fun p => (p, mkV (madeIx p.2.2))
def rangesL (sts : List St) : List (Rg × VNs) := joinF [] (rowsOf sts)
end Lk

set_option Elab.async false
set_option linter.all false
set_option maxRecDepth 100000
set_option maxHeartbeats 4000000
/-! QL: what joined tells. -/
namespace Lk
open PySem Fo
/-- as the law looks whether a ratio is in a range -/
def inRg (g : Rg) (r : Ln) : Bool := if g.1 = r ∨ g.2.2.1 = r then (if g.1 = r then g.2.1 else g.2.2.2) else lessR g.1 r && lessR r g.2.2.1
def red (r : Ln) : Prop := Int.gcd r.1 r.2 = 1
theorem int_cop {a b c : Int} (h : Int.gcd a c = 1) (hd : a ∣ b * c) : a ∣ b := by
  have h1 : Nat.Coprime a.natAbs c.natAbs := h
  have h2 : a.natAbs ∣ b.natAbs * c.natAbs := by rw [← Int.natAbs_mul]; exact Int.natAbs_dvd_natAbs.mpr hd
  exact Int.natAbs_dvd_natAbs.mp (h1.dvd_of_dvd_mul_right h2)
theorem same_eq {a b : Ln} (ha : 0 < a.1 ∧ 0 < a.2) (hb : Rat b) (ga : red a) (gb : red b) (h : sameR a b) : a = b := by
  obtain ⟨a1, a2⟩ := a
  obtain ⟨b1, b2⟩ := b
  obtain ⟨hb1, hb2⟩ := hb
  unfold sameR at h
  unfold red at ga gb
  simp only at *
  have e1 : a1 ∣ b1 := by
    have : a1 ∣ b1 * a2 := ⟨b2, h.symm⟩
    exact int_cop ga this
  have e2 : b1 ∣ a1 := by
    have : b1 ∣ a1 * b2 := ⟨a2, h⟩
    exact int_cop gb this
  have l1 := Int.le_of_dvd hb1 e1
  have l2 := Int.le_of_dvd ha.1 e2
  have e : a1 = b1 := by omega
  subst e
  have : a1 * (b2 - a2) = 0 := by rw [Int.mul_sub]; omega
  rcases Int.mul_eq_zero.mp this with z | z
  · omega
  · simp; omega
/-- ratios are in order -/
theorem tri (x r : Ln) (hx : 0 ≤ x.1 ∧ 0 ≤ x.2) (hr : Rat r) : lessR x r = true ∨ sameR x r ∨ lessR r x = true := by
  rw [lessR_iff, lessR_iff]
  unfold sameR
  omega
theorem less_asym {a b : Ln} (h : lessR a b = true) : ¬ lessR b a = true := by
  rw [lessR_iff] at *; omega
theorem less_ne {a b : Ln} (h : lessR a b = true) : a ≠ b := fun e => by rw [e, lessR_irr] at h; cases h
/-- the last range and the piece behind it -/
def conn (g : Rg) (p : Pce) : Prop := p.1 = g.2.2.1 ∧ ((p.1 = p.2.1 ∧ g.2.2.2 = false ∧ lessR g.1 g.2.2.1 = true) ∨ (lessR p.1 p.2.1 = true ∧ g.2.2.2 = true ∧ (lessR g.1 g.2.2.1 = true ∨ (g.1 = g.2.2.1 ∧ g.2.1 = true))))
structure EndsOk (lo x hi : Ln) : Prop where
  a1 : 0 ≤ lo.1
  a2 : 0 < lo.2
  b1 : 0 < x.1
  b2 : 0 < x.2
  b3 : red x
  c1 : 0 < hi.1
  c2 : 0 ≤ hi.2
theorem in_merge {g : Rg} {p : Pce} {r : Ln} (hE : EndsOk g.1 p.1 p.2.1) (hr : Rat r) (gr : red r) (h : conn g p) : inRg (mergeR g (rangeOf p)) r = (inRg g r || inRg (rangeOf p) r) ∧ ¬ (inRg g r = true ∧ inRg (rangeOf p) r = true) := by
  obtain ⟨lo, wl, x', t⟩ := g
  obtain ⟨x, y, ls⟩ := p
  obtain ⟨e, h⟩ := h
  simp only at e h
  subst e
  obtain ⟨a1, a2, b1, b2, b3, c1, c2⟩ := hE
  simp only at a1 a2 b1 b2 b3 c1 c2
  have hlo : 0 ≤ lo.1 ∧ 0 < lo.2 := ⟨a1, a2⟩
  have hx : Rat x := ⟨b1, b2⟩
  unfold inRg mergeR rangeOf
  simp only
  rcases h with ⟨e, ht, hl⟩ | ⟨hxy, ht, hl⟩
  · subst e ht
    have nlx := less_ne hl
    rcases tri x r ⟨by omega, by omega⟩ hr with h | h | h
    · -- behind
      have n1 : x ≠ r := less_ne h
      have l1 := lessR_trans a2 b2 (by have := hr.2; omega) hl h
      have n2 : lo ≠ r := less_ne l1
      have n3 := less_asym h
      simp [n1, n2, l1, h, n3]
    · have := same_eq ⟨b1, b2⟩ hr b3 gr h
      subst this
      simp [nlx]
    · have n1 : ¬ x = r := fun e => less_ne h e.symm
      have n3 := less_asym h
      by_cases n2 : lo = r
      · simp [n1, n2, n3]
      · simp [n1, n2, n3]
  · subst ht
    have nxy := less_ne hxy
    have lxx := lessR_irr x
    rcases tri x r ⟨by omega, by omega⟩ hr with h | h | h
    · have n1 : x ≠ r := less_ne h
      have n3 := less_asym h
      have l1 : lessR lo r = true := by
        rcases hl with hl | ⟨e, _⟩
        · exact lessR_trans a2 b2 (by have := hr.2; omega) hl h
        · rw [e]; exact h
      have n2 : lo ≠ r := less_ne l1
      by_cases n4 : y = r
      · simp [n1, n2, n4, n3, h, nxy]
      · simp [n1, n2, n4, n3, h, l1]
    · have := same_eq ⟨b1, b2⟩ hr b3 gr h
      subst this
      have nyx : ¬ y = x := fun e => nxy e.symm
      rcases hl with hl | ⟨e, hw⟩
      · have n2 := less_ne hl
        simp [n2, nyx, hl, hxy, nxy]
      · subst e hw
        simp [nxy]
    · have n1 : ¬ x = r := fun e => less_ne h e.symm
      have n3 := less_asym h
      have ly : lessR r y = true := lessR_trans hr.2 b2 c2 h hxy
      have n4 : ¬ y = r := fun e => less_ne ly e.symm
      rcases hl with hl | ⟨e, hw⟩
      · by_cases n2 : lo = r
        · simp [n1, n2, n3, n4]
        · simp [n1, n2, n3, n4, h, ly]
      · subst e
        simp [n1, n3, n4, h]
end Lk

set_option Elab.async false
set_option linter.all false
set_option maxRecDepth 100000
set_option maxHeartbeats 4000000
/-! QM: joined ranges tell each ratio once, in a chain. -/
namespace Lk
open PySem Fo
section
variable {α : Type} [DecidableEq α]
def hits (R : List (Rg × α)) (r : Ln) : List α := (R.filter fun x => inRg x.1 r).map (·.2)
def hitsP (ps : List (Pce × α)) (r : Ln) : List α := (ps.filter fun p => inRg (rangeOf p.1) r).map (·.2)
def link (a b : Rg × α) : Prop := a.1.2.2.1 = b.1.1 ∧ a.1.2.2.2 ≠ b.1.2.1 ∧ a.2 ≠ b.2
def Con : List (Rg × α) → Prop
  | [] => True
  | [_] => True
  | a :: b :: r => link a b ∧ Con (b :: r)
theorem con_snoc {a b : Rg × α} (h : link a b) : ∀ {xs : List (Rg × α)}, Con (xs ++ [a]) → Con (xs ++ [a] ++ [b])
  | [], _ => ⟨h, trivial⟩
  | [x], hc => ⟨hc.1, h, trivial⟩
  | x :: y :: r, hc => ⟨hc.1, con_snoc h (xs := y :: r) hc.2⟩
theorem con_last {a a' : Rg × α} (h1 : a.1.1 = a'.1.1) (h2 : a.1.2.1 = a'.1.2.1) (h3 : a.2 = a'.2) : ∀ {xs : List (Rg × α)}, Con (xs ++ [a]) → Con (xs ++ [a'])
  | [], _ => trivial
  | [x], hc => by
    obtain ⟨⟨q1, q2, q3⟩, _⟩ := hc
    exact ⟨⟨q1.trans h1, by rw [← h2]; exact q2, by rw [← h3]; exact q3⟩, trivial⟩
  | x :: y :: r, hc => ⟨hc.1, con_last h1 h2 h3 (xs := y :: r) hc.2⟩
structure FOk (found : List (Rg × α)) (x : Ln) (t : Bool) : Prop where
  last : ∃ init g u, found = init ++ [(g, u)] ∧ g.2.2.1 = x ∧ g.2.2.2 = t ∧ (lessR g.1 x = true ∨ (g.1 = x ∧ g.2.1 = true ∧ t = true)) ∧ 0 ≤ g.1.1 ∧ 0 < g.1.2
  con : Con found
  first : ∃ g0 v0 rest, found = (g0, v0) :: rest ∧ g0.1 = LOW ∧ g0.2.1 = false
theorem hits_app (a b : List (Rg × α)) (r : Ln) : hits (a ++ b) r = hits a r ++ hits b r := by simp [hits]
theorem first_app {found : List (Rg × α)} {init : List (Rg × α)} {g g' : Rg} {u u' : α} (h : ∃ g0 v0 rest, found = (g0, v0) :: rest ∧ g0.1 = LOW ∧ g0.2.1 = false) (e : found = init ++ [(g, u)]) (h1 : g.1 = g'.1) (h2 : g.2.1 = g'.2.1) :
    ∃ g0 v0 rest, init ++ [(g', u')] = (g0, v0) :: rest ∧ g0.1 = LOW ∧ g0.2.1 = false := by
  obtain ⟨g0, v0, rest, e0, a, b⟩ := h
  cases init with
  | nil =>
    rw [e] at e0
    simp at e0
    obtain ⟨⟨rfl, _⟩, _⟩ := e0
    exact ⟨g', u', [], rfl, h1 ▸ a, h2 ▸ b⟩
  | cons i t =>
    rw [e] at e0
    simp at e0
    obtain ⟨rfl, _⟩ := e0
    exact ⟨g0, v0, _, rfl, a, b⟩
theorem f_step {found : List (Rg × α)} {x : Ln} {t : Bool} {p : Pce} {v : α} (h : FOk found x t) (hp : PieceOk p.1 p.2.1) (e : p.1 = x) (hx : 0 < x.1) (hd : (p.1 = p.2.1 ∧ t = false) ∨ (lessR p.1 p.2.1 = true ∧ t = true)) :
    FOk (joinS found (p, v)) p.2.1 (!t) ∧ ∀ r, Rat r → red r → hits (joinS found (p, v)) r = hits found r ++ hitsP [(p, v)] r := by
  obtain ⟨⟨init, g, u, hf, g1, g2, g3, g4, g5⟩, hc, hfi⟩ := h
  have cn : conn g p := by
    refine ⟨by rw [e, g1], ?_⟩
    rcases hd with ⟨d1, d2⟩ | ⟨d1, d2⟩
    · refine .inl ⟨d1, by rw [g2, d2], ?_⟩
      rcases g3 with z | ⟨_, _, z⟩
      · rw [g1]; exact z
      · rw [d2] at z; cases z
    · refine .inr ⟨d1, by rw [g2, d2], ?_⟩
      rw [g1]
      rcases g3 with z | ⟨z1, z2, _⟩
      · exact .inl z
      · exact .inr ⟨z1, z2⟩
  have ends : EndsOk g.1 p.1 p.2.1 := ⟨g4, g5, by rw [e]; exact hx, hp.l2, hp.g1, hp.h1, hp.h2⟩
  have dt : decide (p.1 = p.2.1) = !t := by
    rcases hd with ⟨d1, d2⟩ | ⟨d1, d2⟩
    · rw [d2]; simpa using d1
    · rw [d2]; simpa using less_ne d1
  by_cases huv : u = v
  · have js : joinS found (p, v) = init ++ [(mergeR g (rangeOf p), v)] := by rw [hf]; simp [joinS, huv]
    rw [js]
    refine ⟨⟨⟨init, _, v, rfl, rfl, dt, ?_, g4, g5⟩, ?_, first_app hfi hf rfl rfl⟩, fun r hr gr => ?_⟩
    · rcases hd with ⟨d1, d2⟩ | ⟨d1, d2⟩
      · rcases g3 with z | ⟨_, _, z⟩
        · left; show lessR g.1 p.2.1 = true; rw [← d1, e]; exact z
        · rw [d2] at z; cases z
      · left
        show lessR g.1 p.2.1 = true
        rcases g3 with z | ⟨z1, _, _⟩
        · rw [← e] at z; exact lessR_trans g5 hp.l2 hp.h2 z d1
        · rw [z1, ← e]; exact d1
    · rw [hf] at hc
      exact con_last (a := (g, u)) (a' := (mergeR g (rangeOf p), v)) rfl rfl huv hc
    · obtain ⟨m1, m2⟩ := in_merge ends hr gr cn
      rw [hf, hits_app, hits_app, List.append_assoc]
      congr 1
      simp only [hits, hitsP, List.filter_cons, List.filter_nil, m1]
      cases q1 : inRg g r <;> cases q2 : inRg (rangeOf p) r <;> simp [huv]
      exact m2 ⟨q1, q2⟩
  · have js : joinS found (p, v) = init ++ [(g, u)] ++ [(rangeOf p, v)] := by rw [hf]; simp [joinS, huv]
    rw [js]
    refine ⟨⟨⟨init ++ [(g, u)], _, v, rfl, rfl, dt, ?_, ?_, ?_⟩, ?_, ?_⟩, fun r hr gr => ?_⟩
    · rcases hd with ⟨d1, d2⟩ | ⟨d1, d2⟩
      · right; exact ⟨d1, by show decide (p.1 = p.2.1) = true; rw [dt, d2]; rfl, by rw [d2]; rfl⟩
      · left; exact d1
    · exact hp.l1
    · exact hp.l2
    · rw [hf] at hc
      refine con_snoc ⟨by show g.2.2.1 = p.1; rw [e, g1], ?_, huv⟩ hc
      show g.2.2.2 ≠ decide (p.1 = p.2.1)
      rw [dt, g2]
      cases t <;> decide
    · obtain ⟨g0, v0, rest, e0, a, b⟩ := hfi
      rw [← hf, e0]
      exact ⟨g0, v0, rest ++ [(rangeOf p, v)], rfl, a, b⟩
    · rw [hf, hits_app]
      congr 1
      simp [hits, hitsP, List.filter_cons]
      split <;> rfl
theorem hitsP_cons (p : Pce × α) (ps : List (Pce × α)) (r : Ln) : hitsP (p :: ps) r = hitsP [p] r ++ hitsP ps r := by
  simp [hitsP, List.filter_cons]
  split <;> simp
/-- pieces in a chain, behind some ranges -/
theorem f_chain (val : Pce → α) : ∀ (ps : List Pce) (lo hi : Ln) (found : List (Rg × α)), Chn lo hi ps → (∀ p ∈ ps, PieceOk p.1 p.2.1) → FOk found lo true → 0 < lo.1 →
    FOk (joinF found (ps.map fun p => (p, val p))) hi false ∧ ∀ r, Rat r → red r → hits (joinF found (ps.map fun p => (p, val p))) r = hits found r ++ hitsP (ps.map fun p => (p, val p)) r
  | [], lo, hi, found, h, _, _, _ => h.elim
  | [p], lo, hi, found, h, hp, hF, hx => by
    obtain ⟨a, b, c⟩ := h
    have := f_step (v := val p) hF (hp p (.head _)) a hx (.inr ⟨by rw [a, b]; exact c, rfl⟩)
    rw [b] at this
    exact this
  | p :: q :: rest, lo, hi, found, h, hp, hF, hx => by
    obtain ⟨a, b, c, d, e⟩ := h
    have s1 := f_step (v := val p) hF (hp p (.head _)) a hx (.inr ⟨by rw [a, b]; exact d, rfl⟩)
    rw [b] at s1
    have hq := hp q (.tail _ (.head _))
    have q1 : 0 < q.1.1 := by have := hq.h1; rw [c] at this; exact this
    have s2 := f_step (v := val q) s1.1 hq rfl q1 (.inl ⟨c.symm, rfl⟩)
    rw [c] at s2
    have s3 := f_chain val rest q.1 hi _ e (fun z hz => hp z (.tail _ (.tail _ hz))) s2.1 q1
    refine ⟨s3.1, fun r hr gr => ?_⟩
    have t3 := s3.2 r hr gr
    rw [List.map_cons, List.map_cons]
    show hits (joinF (joinS (joinS found (p, val p)) (q, val q)) (rest.map fun p => (p, val p))) r = _
    have e1 := hitsP_cons (p, val p) ((q, val q) :: rest.map fun p => (p, val p)) r
    have e2 := hitsP_cons (q, val q) (rest.map fun p => (p, val p)) r
    rw [t3, s2.2 r hr gr, s1.2 r hr gr, e1, e2]
    simp only [List.append_assoc]
/-- all the pieces of a course -/
theorem f_all (val : Pce → α) (ps : List Pce) (h : Chn LOW HIG ps) (hp : ∀ p ∈ ps, PieceOk p.1 p.2.1) :
    FOk (joinF [] (ps.map fun p => (p, val p))) HIG false ∧ ∀ r, Rat r → red r → hits (joinF [] (ps.map fun p => (p, val p))) r = hitsP (ps.map fun p => (p, val p)) r := by
  have start : ∀ p : Pce, p.1 = LOW → lessR LOW p.2.1 = true → PieceOk p.1 p.2.1 → FOk (joinS [] (p, val p)) p.2.1 false ∧ ∀ r, hits (joinS [] (p, val p)) r = hitsP [(p, val p)] r := by
    intro p a hl hp
    have js : joinS [] (p, val p) = [(rangeOf p, val p)] := rfl
    rw [js]
    have ne : ¬ p.1 = p.2.1 := by rw [a]; exact less_ne hl
    refine ⟨⟨⟨[], _, _, rfl, rfl, by show decide _ = false; simpa using ne, .inl (by show lessR p.1 p.2.1 = true; rw [a]; exact hl), hp.l1, hp.l2⟩, trivial, ⟨_, _, [], rfl, a, by show decide _ = false; simpa using ne⟩⟩, fun r => ?_⟩
    simp [hits, hitsP, List.filter_cons]
    split <;> rfl
  match ps, h, hp with
  | [p], h, hp =>
    obtain ⟨a, b, c⟩ := h
    have := start p a (by rw [b]; exact c) (hp p (.head _))
    rw [b] at this
    exact ⟨this.1, fun r _ _ => this.2 r⟩
  | p :: q :: rest, h, hp =>
    obtain ⟨a, b, c, d, e⟩ := h
    have s1 := start p a (by rw [b]; exact d) (hp p (.head _))
    rw [b] at s1
    have hq := hp q (.tail _ (.head _))
    have q1 : 0 < q.1.1 := by have := hq.h1; rw [c] at this; exact this
    have s2 := f_step (v := val q) s1.1 hq rfl q1 (.inl ⟨c.symm, rfl⟩)
    rw [c] at s2
    have s3 := f_chain val rest q.1 HIG _ e (fun z hz => hp z (.tail _ (.tail _ hz))) s2.1 q1
    refine ⟨s3.1, fun r hr gr => ?_⟩
    have t3 := s3.2 r hr gr
    rw [List.map_cons, List.map_cons]
    show hits (joinF (joinS (joinS [] (p, val p)) (q, val q)) (rest.map fun p => (p, val p))) r = _
    have e1 := hitsP_cons (p, val p) ((q, val q) :: rest.map fun p => (p, val p)) r
    have e2 := hitsP_cons (q, val q) (rest.map fun p => (p, val p)) r
    rw [t3, s2.2 r hr gr, s1.2 r, e1, e2]
    simp only [List.append_assoc]
/-- each ratio lies in one piece -/
theorem one_hit (val : Pce → α) : ∀ (ps : List Pce) (lo hi r : Ln), Chn lo hi ps → (∀ p ∈ ps, PieceOk p.1 p.2.1) → Rat r → red r → 0 ≤ lo.1 → 0 < lo.2 →
    (lessR lo r = true → lessR r hi = true → ∃ p ∈ ps, inP p.1 p.2.1 r ∧ hitsP (ps.map fun p => (p, val p)) r = [val p]) ∧ (¬ lessR lo r = true → hitsP (ps.map fun p => (p, val p)) r = [])
  | [], lo, hi, r, h, _, _, _, _, _ => h.elim
  | [p], lo, hi, r, h, hp, hr, gr, l1, l2 => by
    obtain ⟨a, b, c⟩ := h
    have ne : ¬ lo = hi := less_ne c
    have er : inRg (rangeOf p) r = (lessR lo r && lessR r hi) := by
      unfold inRg rangeOf
      simp only [a, b, ne, decide_false]
      by_cases z1 : lo = r
      · simp [z1, lessR_irr]
      · by_cases z2 : hi = r
        · simp [z1, z2, lessR_irr]
        · simp [z1, z2]
    refine ⟨fun h1 h2 => ⟨p, .head _, .inr ⟨by rw [a]; exact h1, by rw [b]; exact h2⟩, ?_⟩, fun h1 => ?_⟩
    · simp [hitsP, List.filter_cons, er, h1, h2]
    · simp [hitsP, List.filter_cons, er, h1]
  | p :: q :: rest, lo, hi, r, h, hp, hr, gr, l1, l2 => by
    obtain ⟨a, b, c, d, e⟩ := h
    have ne : ¬ lo = q.1 := less_ne d
    have er : inRg (rangeOf p) r = (lessR lo r && lessR r q.1) := by
      unfold inRg rangeOf
      simp only [a, b, ne, decide_false]
      by_cases z1 : lo = r
      · simp [z1, lessR_irr]
      · by_cases z2 : q.1 = r
        · simp [z1, z2, lessR_irr]
        · simp [z1, z2]
    have hq := hp q (.tail _ (.head _))
    have q1 : 0 < q.1.1 := by have := hq.h1; rw [c] at this; exact this
    have q2 : 0 < q.1.2 := hq.l2
    have eq : inRg (rangeOf q) r = decide (q.1 = r) := by
      unfold inRg rangeOf
      simp only [c]
      by_cases z : q.1 = r
      · simp [z]
      · have : (lessR q.1 r && lessR r q.1) = false := by
          cases z2 : lessR q.1 r with
          | false => rfl
          | true =>
            have := less_asym z2
            simp [this]
        simp [z, this]
    have ih := one_hit val rest q.1 hi r e (fun z hz => hp z (.tail _ (.tail _ hz))) hr gr (by omega) q2
    have e1 := hitsP_cons (p, val p) ((q, val q) :: rest.map fun p => (p, val p)) r
    have e2 := hitsP_cons (q, val q) (rest.map fun p => (p, val p)) r
    rw [List.map_cons, List.map_cons, e1, e2]
    have hP1 : hitsP [(p, val p)] r = if (lessR lo r && lessR r q.1) = true then [val p] else [] := by
      simp only [hitsP, List.filter_cons, List.filter_nil, er]
      split <;> rfl
    have hP2 : hitsP [(q, val q)] r = if q.1 = r then [val q] else [] := by
      simp only [hitsP, List.filter_cons, List.filter_nil, eq]
      by_cases z : q.1 = r <;> simp [z]
    rw [hP1, hP2]
    rcases tri q.1 r ⟨by omega, by omega⟩ hr with t | t | t
    · have n1 := less_ne t
      have n2 := less_asym t
      have n3 := lessR_trans l2 q2 (by have := hr.2; omega) d t
      refine ⟨fun h1 h2 => ?_, fun h1 => absurd n3 h1⟩
      obtain ⟨z, hz, h3, h4⟩ := ih.1 t h2
      exact ⟨z, .tail _ (.tail _ hz), h3, by simp [n1, n2, h4]⟩
    · have := same_eq ⟨q1, q2⟩ hr hq.g1 gr t
      subst this
      have n1 := lessR_irr q.1
      refine ⟨fun h1 h2 => ⟨q, .tail _ (.head _), .inl ⟨c.symm, rfl⟩, ?_⟩, fun h1 => absurd d h1⟩
      have := ih.2 (by rw [n1]; decide)
      simp [n1, this]
    · have n1 : ¬ q.1 = r := fun z => less_ne t z.symm
      have n2 := less_asym t
      have := ih.2 n2
      refine ⟨fun h1 h2 => ⟨p, .head _, .inr ⟨by rw [a]; exact h1, by rw [b]; exact t⟩, ?_⟩, fun h1 => ?_⟩
      · simp [h1, t, n1, this]
      · simp [h1, n1, this]
end
end Lk

set_option Elab.async false
set_option linter.all false
set_option maxRecDepth 100000
set_option maxHeartbeats 4000000
/-! QN: the law's own lines at a ratio. -/
namespace Lk
open PySem Fo
abbrev Wl := Kd × Int
def encW (l : Wl) : PyData := .tuple [l.1.d, .int l.2]
def encOW : Option Wl → PyData
  | none => .none
  | some l => encW l
def cross2 : Kd → Int → Kd → Int → Int × Int
  | .P, p, .D, d => (d + p, d - p)
  | .D, d, .P, p => (d + p, d - p)
  | .U, x, .L, y => (2 * x, 2 * y)
  | .L, y, .U, x => (2 * x, 2 * y)
  | .U, x, .P, p => (2 * x, 2 * (x - p))
  | .P, p, .U, x => (2 * x, 2 * (x - p))
  | .U, x, .D, d => (2 * x, 2 * (d - x))
  | .D, d, .U, x => (2 * x, 2 * (d - x))
  | .L, y, .P, p => (2 * (p + y), 2 * y)
  | .P, p, .L, y => (2 * (p + y), 2 * y)
  | .L, y, .D, d => (2 * (d - y), 2 * y)
  | .D, d, .L, y => (2 * (d - y), 2 * y)
  | _, x, _, y => (x, y)
theorem fdiv_m1 (x : Int) : x.fdiv (-1) = -x := by
  rw [Int.fdiv_eq_ediv]
  simp
theorem fdiv_m2 (x : Int) : (2 * x).fdiv (-2) = -x := by
  rw [Int.fdiv_eq_ediv]
  have : (2 : Int) * x / -2 = -x := by rw [Int.ediv_neg, Int.mul_ediv_cancel_left _ (by decide)]
  rw [this]
  have h : (-2 : Int) ∣ 2 * x := ⟨-x, by omega⟩
  simp [h]
theorem fdiv_2 (x : Int) : x.fdiv 2 = x / 2 := Int.fdiv_eq_ediv_of_nonneg x (by decide)
theorem fdiv_1 (x : Int) : x.fdiv 1 = x := by rw [Int.fdiv_eq_ediv_of_nonneg x (by decide)]; simp
theorem mk4l (a b c d : PyData) : mkDict ["upright", "level", "up", "down"] [a, b, c, d] = some [(.str "upright", a), (.str "level", b), (.str "up", c), (.str "down", d)] := mk4 a b c d
theorem m_small (c x : Int) (h1 : -100 ≤ c) (h2 : c ≤ 100) : mulOk c x = true ∧ mulOk x c = true := ⟨mulOk_l (by omega) (by omega), mulOk_r (by omega) (by omega)⟩
theorem d_small (c x : Int) (h0 : c ≠ 0) (h1 : -100 ≤ c) (h2 : c ≤ 100) : divOk x c = true := divOk_s h0 (by omega) (by omega)
theorem r_law_point (n : Nat) (k1 k2 : Kd) (w1 w2 : Int) (h : k1 ≠ k2) : callF Q (n + 1) 65 [encW (k1, w1), encW (k2, w2)] = .ok (.tuple [.int (cross2 k1 w1 k2 w2).1, .int (cross2 k1 w1 k2 w2).2], []) := by
  rw [callQ (F := F65) rfl rfl]
  have a0 := fun x => m_small 0 x (by decide) (by decide)
  have a1 := fun x => m_small 1 x (by decide) (by decide)
  have a2 := fun x => m_small 2 x (by decide) (by decide)
  have a3 := fun x => m_small (-1) x (by decide) (by decide)
  have d1 := fun x => d_small 1 x (by decide) (by decide) (by decide)
  have d2 := fun x => d_small 2 x (by decide) (by decide) (by decide)
  have d3 := fun x => d_small (-1) x (by decide) (by decide) (by decide)
  have d4 := fun x => d_small (-2) x (by decide) (by decide) (by decide)
  cases k1 <;> cases k2 <;> first
    | exact absurd rfl h
    | (simp [F65, Fo.start, ownAt_eq, bindT_name, parS_cons, ownS_list, ownS_dict, isLst, Tg.slots, wipeR, backR, occ, isOwn, pkI_var, evE_lc, encW, Kd.d, mk4, ofOpt, lookS, isStr, (a0 _).1, (a0 _).2, (a1 _).1, (a1 _).2, (a2 _).1, (a2 _).2, (a3 _).1, (a3 _).2, d1, d2, d3, d4, fdiv_m1, fdiv_m2, fdiv_2, fdiv_1, cross2]; try omega)
def imageW (a b : Wl) : Wl := match a.1, b.1 with
  | .U, .U | .L, .L | .P, .P | .D, .D => (a.1, 2 * b.2 - a.2)
  | .U, .L | .L, .U | .P, .D | .D, .P => a
  | .P, .U => (.D, 2 * b.2 - a.2)
  | .D, .U => (.P, 2 * b.2 - a.2)
  | .P, .L => (.D, a.2 + 2 * b.2)
  | .D, .L => (.P, a.2 - 2 * b.2)
  | .U, .P => (.L, a.2 - b.2)
  | .L, .P => (.U, a.2 + b.2)
  | .U, .D => (.L, b.2 - a.2)
  | .L, .D => (.U, b.2 - a.2)
theorem r_law_image (n : Nat) (a b : Wl) : callF Q (n + 2) 66 [encW a, encW b] = .ok (encW (imageW a b), []) := by
  obtain ⟨k1, w1⟩ := a
  obtain ⟨k2, w2⟩ := b
  rw [callQ (F := F66) rfl rfl]
  have a0 := fun x => m_small 0 x (by decide) (by decide)
  have a1 := fun x => m_small 1 x (by decide) (by decide)
  have a2 := fun x => m_small 2 x (by decide) (by decide)
  have a3 := fun x => m_small (-1) x (by decide) (by decide)
  have d2 := fun x => d_small 2 x (by decide) (by decide) (by decide)
  have rt := r_turned n k1 k2
  cases k1 <;> cases k2 <;>
    (simp only [Kd.d, Kd.s, imgK] at rt; simp [F66, Fo.start, ownAt_eq, bindT_name, parS_cons, ownS_list, ownS_dict, isLst, Tg.slots, wipeR, backR, occ, isOwn, pkI_var, evE_lc, encW, Kd.d, mk4, ofOpt, lookS, isStr, (a0 _).1, (a0 _).2, (a1 _).1, (a1 _).2, (a2 _).1, (a2 _).2, (a3 _).1, (a3 _).2, d2, fdiv_2, imageW, rt]; try omega)
def insideW (l : Wl) (w h : Int) : Bool := decide ((if l.1 = .P then -h else 0) < l.2) && decide (l.2 < pickK w h w (w + h) l.1)
theorem r_law_inside (n : Nat) (l : Wl) (w h : Int) : callF Q (n + 1) 67 [encW l, .int w, .int h] = .ok (.bool (insideW l w h), []) := by
  obtain ⟨k, p⟩ := l
  rw [callQ (F := F67) rfl rfl]
  cases k
  · by_cases h1 : 0 < p <;> simp [F67, Fo.start, ownAt_eq, bindT_name, parS_cons, ownS_list, ownS_dict, isLst, Tg.slots, wipeR, backR, occ, isOwn, pkI_var, evE_lc, encW, Kd.d, kDix4, lookO, lookS, isStr, insideW, pickK, h1] <;> rfl
  · by_cases h1 : 0 < p <;> simp [F67, Fo.start, ownAt_eq, bindT_name, parS_cons, ownS_list, ownS_dict, isLst, Tg.slots, wipeR, backR, occ, isOwn, pkI_var, evE_lc, encW, Kd.d, kDix4, lookO, lookS, isStr, insideW, pickK, h1] <;> rfl
  · by_cases h1 : -h < p <;> simp [F67, Fo.start, ownAt_eq, bindT_name, parS_cons, ownS_list, ownS_dict, isLst, Tg.slots, wipeR, backR, occ, isOwn, pkI_var, evE_lc, encW, Kd.d, kDix4, lookO, lookS, isStr, insideW, pickK, h1] <;> rfl
  · by_cases h1 : 0 < p <;> simp [F67, Fo.start, ownAt_eq, bindT_name, parS_cons, ownS_list, ownS_dict, isLst, Tg.slots, wipeR, backR, occ, isOwn, pkI_var, evE_lc, encW, Kd.d, kDix4, lookO, lookS, isStr, insideW, pickK, h1] <;> rfl
/-- what a step makes, in whole numbers -/
def madeW (s : St) (a b : Wl) (w h : Int) : Option Wl := match s with
  | .thr _ _ k =>
    let p := cross2 a.1 a.2 b.1 b.2
    if 0 ≤ p.1 ∧ p.1 ≤ 2 * w ∧ 0 ≤ p.2 ∧ p.2 ≤ 2 * h then
      let l : Wl := (k, (pickK p.1 p.2 (p.1 - p.2) (p.1 + p.2) k).fdiv 2)
      if insideW l w h = true then some l else none
    else none
  | .mir _ _ => if insideW (imageW a b) w h = true then some (imageW a b) else none
  | .mid _ _ => if a.2 = b.2 then none else
      let l : Wl := (a.1, a.2 + (b.2 - a.2).fdiv 2)
      if insideW l w h = true then some l else none
  | .thd _ _ => if a.2 = b.2 then none else
      let l : Wl := (a.1, a.2 + (b.2 - a.2).fdiv 3)
      if insideW l w h = true then some l else none
theorem r_law_made (n : Nat) (s : St) (a b : Wl) (w h : Int) (hs : ∀ i j k, s = .thr i j k → a.1 ≠ b.1) : callF Q (n + 3) 68 [s.enc, encW a, encW b, .int w, .int h] = .ok (encOW (madeW s a b w h), []) := by
  rw [callQ (F := F68) rfl rfl]
  have a2 := fun x => m_small 2 x (by decide) (by decide)
  have d2 := fun x => d_small 2 x (by decide) (by decide) (by decide)
  have d3 := fun x => d_small 3 x (by decide) (by decide) (by decide)
  have el : ∀ l : Wl, encW l = .tuple [l.1.d, .int l.2] := fun _ => rfl
  cases s with
  | thr i j k =>
    have e1 := r_law_point (n + 1) a.1 b.1 a.2 b.2 (hs i j k rfl)
    have e1 : callF Q (n + 2) 65 [encW a, encW b] = _ := e1
    have e2 := fun l => r_law_inside (n + 1) l w h
    have pk := fun a b c d : Int => pick_map PyData.int a b c d k
    generalize hc : cross2 a.1 a.2 b.1 b.2 = p at e1
    obtain ⟨x, y⟩ := p
    simp only at e1
    by_cases h1 : 0 ≤ x
    · by_cases h2 : x ≤ 2 * w
      · by_cases h3 : 0 ≤ y
        · by_cases h4 : y ≤ 2 * h
          · have e3 := e2 (k, (pickK x y (x - y) (x + y) k).fdiv 2)
            have el1 := el (k, (pickK x y (x - y) (x + y) k).fdiv 2)
            rw [el1] at e3
            cases hi : insideW (k, (pickK x y (x - y) (x + y) k).fdiv 2) w h <;> rw [hi] at e3 <;>
              simp [F68, Fo.start, ownAt_eq, bindT_name, parS_cons, ownS_list, ownS_dict, isLst, Tg.slots, wipeR, backR, occ, isOwn, pkI_var, evE_lc, St.enc, e1, (a2 _).1, h1, h2, h3, h4, kDix4, lookO4, pk, d2, e3, madeW, hc, hi, encOW, el1]
          · simp [F68, Fo.start, ownAt_eq, bindT_name, parS_cons, ownS_list, ownS_dict, isLst, Tg.slots, wipeR, backR, occ, isOwn, pkI_var, evE_lc, St.enc, e1, (a2 _).1, h1, h2, h3, h4, madeW, hc, encOW]
        · simp [F68, Fo.start, ownAt_eq, bindT_name, parS_cons, ownS_list, ownS_dict, isLst, Tg.slots, wipeR, backR, occ, isOwn, pkI_var, evE_lc, St.enc, e1, (a2 _).1, h1, h2, h3, madeW, hc, encOW]
      · simp [F68, Fo.start, ownAt_eq, bindT_name, parS_cons, ownS_list, ownS_dict, isLst, Tg.slots, wipeR, backR, occ, isOwn, pkI_var, evE_lc, St.enc, e1, (a2 _).1, h1, h2, madeW, hc, encOW]
    · simp [F68, Fo.start, ownAt_eq, bindT_name, parS_cons, ownS_list, ownS_dict, isLst, Tg.slots, wipeR, backR, occ, isOwn, pkI_var, evE_lc, St.enc, e1, (a2 _).1, h1, madeW, hc, encOW]
  | mir i j =>
    have e1 := r_law_image n a b
    have e2 := r_law_inside (n + 1) (imageW a b) w h
    cases hi : insideW (imageW a b) w h <;> rw [hi] at e2 <;> simp [F68, Fo.start, ownAt_eq, bindT_name, parS_cons, ownS_list, ownS_dict, isLst, Tg.slots, wipeR, backR, occ, isOwn, pkI_var, evE_lc, St.enc, e1, e2, madeW, hi, encOW]
  | mid i j =>
    by_cases hab : a.2 = b.2
    · simp [F68, Fo.start, ownAt_eq, bindT_name, parS_cons, ownS_list, ownS_dict, isLst, Tg.slots, wipeR, backR, occ, isOwn, pkI_var, evE_lc, St.enc, el, hab, madeW, encOW]
    · have e2 := r_law_inside (n + 1) (a.1, a.2 + (b.2 - a.2).fdiv 2) w h
      rw [el] at e2
      cases hi : insideW (a.1, a.2 + (b.2 - a.2).fdiv 2) w h <;> rw [hi] at e2 <;> simp [F68, Fo.start, ownAt_eq, bindT_name, parS_cons, ownS_list, ownS_dict, isLst, Tg.slots, wipeR, backR, occ, isOwn, pkI_var, evE_lc, St.enc, el, hab, d2, e2, madeW, hi, encOW]
  | thd i j =>
    by_cases hab : a.2 = b.2
    · simp [F68, Fo.start, ownAt_eq, bindT_name, parS_cons, ownS_list, ownS_dict, isLst, Tg.slots, wipeR, backR, occ, isOwn, pkI_var, evE_lc, St.enc, el, hab, madeW, encOW]
    · have e2 := r_law_inside (n + 1) (a.1, a.2 + (b.2 - a.2).fdiv 3) w h
      rw [el] at e2
      cases hi : insideW (a.1, a.2 + (b.2 - a.2).fdiv 3) w h <;> rw [hi] at e2 <;> simp [F68, Fo.start, ownAt_eq, bindT_name, parS_cons, ownS_list, ownS_dict, isLst, Tg.slots, wipeR, backR, occ, isOwn, pkI_var, evE_lc, St.enc, el, hab, d3, e2, madeW, hi, encOW]
end Lk

set_option Elab.async false
set_option linter.all false
set_option maxRecDepth 100000
set_option maxHeartbeats 4000000
/-! QO: the law's lines are the plan's. -/
namespace Lk
open PySem Fo
def evL (r : Ln) (l : Lne) : Wl := (l.1, worthL l.2 r)
theorem w_plus (a b r : Ln) : worthL (plusL a b) r = worthL a r + worthL b r := by unfold worthL plusL; simp only [Int.add_mul]; omega
theorem w_minus (a b r : Ln) : worthL (minusL a b) r = worthL a r - worthL b r := by unfold worthL minusL; simp only [Int.sub_mul]; omega
theorem w_twice (a r : Ln) : worthL (twiceL a) r = 2 * worthL a r := by unfold worthL twiceL; simp only [Int.mul_assoc]; omega
theorem w_WID (r : Ln) : worthL WID r = 46656 * r.1 := by simp [worthL, WID]
theorem w_HEI (r : Ln) : worthL HEI r = 46656 * r.2 := by simp [worthL, HEI]
theorem w_NON (r : Ln) : worthL NON r = 0 := by simp [worthL, NON]
theorem inside_eq (r : Ln) (l : Lne) : insideW (evL r l) (46656 * r.1) (46656 * r.2) = (insideL l).all fun x => decide (0 < worthL x r) := by
  obtain ⟨k, p⟩ := l
  unfold insideW evL insideL
  simp only [List.all_cons, List.all_nil, Bool.and_true]
  have e : ∀ {a b c d : Bool}, a = c → b = d → (a && b) = (c && d) := fun h1 h2 => by rw [h1, h2]
  cases k <;> refine e (decide_eq_decide.mpr ?_) (decide_eq_decide.mpr ?_) <;> simp only [pickK, w_minus, w_plus, w_WID, w_HEI, w_NON] <;> simp <;> omega
theorem cross_eq {d : Int} {a b : Lne} (r : Ln) (h1 : Dv (6 * d) a.2) (h2 : Dv (6 * d) b.2) (hn : a.1 ≠ b.1) : cross2 a.1 (worthL a.2 r) b.1 (worthL b.2 r) = (2 * worthL (crossL a.1 a.2 b.1 b.2).1 r, 2 * worthL (crossL a.1 a.2 b.1 b.2).2 r) := by
  obtain ⟨k1, p1⟩ := a
  obtain ⟨k2, p2⟩ := b
  have s1 := shared_worth (k := 2) r (.inl rfl) (h1.plus h2)
  have s2 := shared_worth (k := 2) r (.inl rfl) (h2.plus h1)
  have s3 := shared_worth (k := 2) r (.inl rfl) (h1.minus h2)
  have s4 := shared_worth (k := 2) r (.inl rfl) (h2.minus h1)
  simp only [w_plus, w_minus] at s1 s2 s3 s4
  cases k1 <;> cases k2 <;> first
    | exact absurd rfl hn
    | (simp only [cross2, crossL, s1, s2, s3, s4, w_plus, w_minus])
theorem image_eq (r : Ln) (a b : Lne) : imageW (evL r a) (evL r b) = evL r (imageL a b) := by
  obtain ⟨k1, p1⟩ := a
  obtain ⟨k2, p2⟩ := b
  cases k1 <;> cases k2 <;> simp only [imageW, imageL, evL, w_plus, w_minus, w_twice]
theorem through_eq (r : Ln) (p : Ln × Ln) (k : Kd) : (pickK (2 * worthL p.1 r) (2 * worthL p.2 r) (2 * worthL p.1 r - 2 * worthL p.2 r) (2 * worthL p.1 r + 2 * worthL p.2 r) k).fdiv 2 = worthL (throughL p k).2 r := by
  rw [fdiv_2]
  cases k <;> simp only [pickK, throughL, w_plus, w_minus] <;> omega
theorem made_eq {d : Int} {s : St} {a b : Lne} (r : Ln) (h1 : Dv (6 * d) a.2) (h2 : Dv (6 * d) b.2) (hs : stOk s a b) : madeW s (evL r a) (evL r b) (46656 * r.1) (46656 * r.2) = if goodAt r (askL s a b) = true then some (evL r (askL s a b).1) else none := by
  cases s with
  | thr i j k =>
    have hc := cross_eq r h1 h2 hs
    have hc' : cross2 (evL r a).1 (evL r a).2 (evL r b).1 (evL r b).2 = _ := hc
    have ha : askL (.thr i j k) a b = (throughL (crossL a.1 a.2 b.1 b.2) k, [], [(crossL a.1 a.2 b.1 b.2).1, minusL WID (crossL a.1 a.2 b.1 b.2).1, (crossL a.1 a.2 b.1 b.2).2, minusL HEI (crossL a.1 a.2 b.1 b.2).2], insideL (throughL (crossL a.1 a.2 b.1 b.2) k)) := rfl
    rw [ha]
    unfold madeW
    simp only [hc']
    generalize crossL a.1 a.2 b.1 b.2 = p at *
    have ht := through_eq r p k
    have hi := inside_eq r (throughL p k)
    have el : ((k, (pickK (2 * worthL p.1 r) (2 * worthL p.2 r) (2 * worthL p.1 r - 2 * worthL p.2 r) (2 * worthL p.1 r + 2 * worthL p.2 r) k).fdiv 2) : Wl) = evL r (throughL p k) := by rw [ht]; rfl
    rw [el, hi]
    have hg : ∀ I : Bool, ((([p.1, minusL WID p.1, p.2, minusL HEI p.2].all fun l => decide (0 ≤ worthL l r)) && I) = (decide (0 ≤ 2 * worthL p.1 r ∧ 2 * worthL p.1 r ≤ 2 * (46656 * r.1) ∧ 0 ≤ 2 * worthL p.2 r ∧ 2 * worthL p.2 r ≤ 2 * (46656 * r.2)) && I)) := fun I => by
      congr 1
      simp only [List.all_cons, List.all_nil, Bool.and_true, w_minus, w_WID, w_HEI]
      by_cases c : 0 ≤ 2 * worthL p.1 r ∧ 2 * worthL p.1 r ≤ 2 * (46656 * r.1) ∧ 0 ≤ 2 * worthL p.2 r ∧ 2 * worthL p.2 r ≤ 2 * (46656 * r.2)
      · rw [decide_eq_true c]
        simp only [Bool.and_eq_true, decide_eq_true_eq]
        omega
      · rw [decide_eq_false c]
        simp only [Bool.and_eq_false_iff, decide_eq_false_iff_not]
        omega
    have hg2 : goodAt r (throughL p k, [], [p.1, minusL WID p.1, p.2, minusL HEI p.2], insideL (throughL p k)) = (decide (0 ≤ 2 * worthL p.1 r ∧ 2 * worthL p.1 r ≤ 2 * (46656 * r.1) ∧ 0 ≤ 2 * worthL p.2 r ∧ 2 * worthL p.2 r ≤ 2 * (46656 * r.2)) && ((insideL (throughL p k)).all fun x => decide (0 < worthL x r))) := by
      unfold goodAt
      simp only [List.all_nil, Bool.true_and]
      exact hg _
    rw [hg2]
    by_cases c : 0 ≤ 2 * worthL p.1 r ∧ 2 * worthL p.1 r ≤ 2 * (46656 * r.1) ∧ 0 ≤ 2 * worthL p.2 r ∧ 2 * worthL p.2 r ≤ 2 * (46656 * r.2)
    · rw [if_pos c, decide_eq_true c, Bool.true_and]
    · rw [if_neg c, decide_eq_false c, Bool.false_and]
      rfl
  | mir i j =>
    unfold madeW
    simp only [image_eq, inside_eq]
    unfold goodAt askL
    simp only [List.all_nil, Bool.true_and]
  | mid i j =>
    have g := shared_worth (k := 2) r (.inl rfl) (h2.minus h1)
    have el : ((a.1, worthL a.2 r + (worthL b.2 r - worthL a.2 r).fdiv 2) : Wl) = evL r (a.1, plusL a.2 (sharedL (minusL b.2 a.2) 2)) := by
      unfold evL
      simp only [w_plus, fdiv_2]
      rw [w_minus] at g
      congr 2
      omega
    have hi := inside_eq r (a.1, plusL a.2 (sharedL (minusL b.2 a.2) 2))
    unfold madeW
    simp only [evL] at el hi ⊢
    simp only [el, hi]
    unfold goodAt askL
    simp only [List.all_cons, List.all_nil, Bool.and_true, w_minus]
    by_cases c : worthL a.2 r = worthL b.2 r
    · have : worthL b.2 r - worthL a.2 r = 0 := by omega
      simp [c]
    · have : ¬ worthL b.2 r - worthL a.2 r = 0 := by omega
      simp only [c, this, if_false, decide_false, Bool.not_false, Bool.true_and]
  | thd i j =>
    have g := shared_worth (k := 3) r (.inr rfl) (h2.minus h1)
    have el : ((a.1, worthL a.2 r + (worthL b.2 r - worthL a.2 r).fdiv 3) : Wl) = evL r (a.1, plusL a.2 (sharedL (minusL b.2 a.2) 3)) := by
      unfold evL
      have e3 : ∀ x : Int, x.fdiv 3 = x / 3 := fun x => Int.fdiv_eq_ediv_of_nonneg x (by decide)
      simp only [w_plus, e3]
      rw [w_minus] at g
      congr 2
      omega
    have hi := inside_eq r (a.1, plusL a.2 (sharedL (minusL b.2 a.2) 3))
    unfold madeW
    simp only [evL] at el hi ⊢
    simp only [el, hi]
    unfold goodAt askL
    simp only [List.all_cons, List.all_nil, Bool.and_true, w_minus]
    by_cases c : worthL a.2 r = worthL b.2 r
    · have : worthL b.2 r - worthL a.2 r = 0 := by omega
      simp [c]
    · have : ¬ worthL b.2 r - worthL a.2 r = 0 := by omega
      simp only [c, this, if_false, decide_false, Bool.not_false, Bool.true_and]
/-- the law's lines -/
def evO (r : Ln) (o : Option Lne) : Option Wl := o.map (evL r)
theorem made_step {ks : List Kd} {m d : Int} {ls : List (Option Lne)} {s : St} {k : Kd} (r : Ln) (h : LOk ks m (6 * d) ls) (hs : s.kind ks = some k) : evO r (stepAt r ls s) = match lnAt ls s.one, lnAt ls s.two with
    | some a, some b => madeW s (evL r a) (evL r b) (46656 * r.1) (46656 * r.2)
    | _, _ => none := by
  unfold stepAt
  cases ea : lnAt ls s.one with
  | none => rfl
  | some a =>
    cases eb : lnAt ls s.two with
    | none => rfl
    | some b =>
      have ga := lnAt_get ea
      have gb := lnAt_get eb
      simp only
      rw [made_eq r (h.v _ (List.mem_of_getElem? ga)) (h.v _ (List.mem_of_getElem? gb)) (st_ok hs h.k ga gb).1]
      split <;> rfl
end Lk

set_option Elab.async false
set_option linter.all false
set_option maxRecDepth 100000
set_option maxHeartbeats 4000000
/-! QP: the law's lines, run. -/
namespace Lk
open PySem Fo
def encE (r : Ln) (o : Option Lne) : PyData := encOW (evO r o)
theorem isN_E (r : Ln) (o : Option Lne) (neg : Bool) : isNb neg (encE r o) = if o.isSome = true then neg else !neg := by cases o <;> rfl
theorem isN_W (l : Wl) (neg : Bool) : isNb neg (encW l) = neg := rfl
theorem encE_some (r : Ln) (l : Lne) : encE r (some l) = encW (evL r l) := rfl
def ILn (r : Ln) (sts ys : List St) (ρ : Rho) : Prop := ∃ (ks ks' : List Kd) (j : Nat) (ls : List (Option Lne)) (s3 s6 s7 s8 : Sl), ρ = [.val (.tuple (sts.map St.enc)), .val (encR r), .own (.list (ls.map (encE r))), s3, .val (.int (46656 * r.1)), .val (.int (46656 * r.2)), s6, s7, s8] ∧
  LOk ks (46656 * 4 ^ j) (6 ^ (6 - j)) ls ∧ kindsP ks ys = some ks' ∧ j + ys.length ≤ 6 ∧ ks.length = 4 + j ∧ SLf r ls ys = SL r sts
theorem lok_start : LOk E0 46656 46656 EL := by
  have := (inv_start.pc (LOW, HIG, EL) (by simp [startP])).2.1
  exact this
theorem b4 (j : Nat) : (46656 : Int) ≤ 46656 * 4 ^ j := by
  have b0 : (1 : Int) ≤ 4 ^ j := by
    have : 1 ≤ (4 : Nat) ^ j := Nat.one_le_pow _ _ (by decide)
    exact_mod_cast this
  omega
theorem r_law_lines (n : Nat) (r : Ln) (sts : List St) (hP : Plan sts) (hl : sts.length ≤ 6) : callF Q (n + 4) 69 [.tuple (sts.map St.enc), encR r] = .ok (.list ((SL r sts).map (encE r)), []) := by
  obtain ⟨ks0, hk0⟩ := hP
  refine ok_of ?_
  rw [callQ (F := F69) rfl rfl]
  refine wp_fin ?_
  have m1 : ∀ x, mulOk 46656 x = true := fun x => mulOk_l (by decide) (by decide)
  have er : encR r = .tuple [.int r.1, .int r.2] := rfl
  have e0 : PyData.list [.tuple [.str "upright", .int 0], .tuple [.str "level", .int 0], .tuple [.str "upright", .int (46656 * r.1)], .tuple [.str "level", .int (46656 * r.2)]] = .list (EL.map (encE r)) := by
    simp [EL, encE, evO, encOW, encW, evL, Kd.d, w_WID, w_HEI, w_NON]
  simp only [F69]
  simp [Fo.start, ownAt_eq, bindT_name, parS_cons, ownS_list, ownS_dict, isLst, Tg.slots, wipeR, backR, occ, isOwn, pkI_var, evE_lc, er, m1]
  rw [e0, ← er]
  refine wp_seq (wp_goM (fun ys ρ => ILn r sts ys ρ) ?_ ?_ ?_)
  · rintro s ys _ ⟨ks, ks', j, ls, s3, s6, s7, s8, rfl, hL, hk, hj, hkl, hc⟩
    simp only [List.length_cons] at hj
    rw [kindsP_cons] at hk
    cases e : s.kind ks with
    | none => rw [e] at hk; cases hk
    | some k =>
      rw [e] at hk
      have hk : kindsP (ks ++ [k]) ys = some ks' := hk
      obtain ⟨i1, i2⟩ := st_in e
      rw [← hL.k.1] at i1 i2
      obtain ⟨oa, ga⟩ : ∃ o, ls[s.one]? = some o := ⟨_, List.getElem?_eq_getElem i1⟩
      obtain ⟨ob, gb⟩ : ∃ o, ls[s.two]? = some o := ⟨_, List.getElem?_eq_getElem i2⟩
      have la := lnAt_some ga
      have lb := lnAt_some gb
      have e6 : (6 : Int) ^ (6 - j) = 6 * 6 ^ (6 - (j + 1)) := by
        have : 6 - j = (6 - (j + 1)) + 1 := by omega
        rw [this, Int.pow_succ, Int.mul_comm]
      rw [e6] at hL
      have nx := step_ok r hL e (b4 j)
      have e4 : (4 : Int) * (46656 * 4 ^ j) = 46656 * 4 ^ (j + 1) := by rw [Int.pow_succ]; omega
      rw [e4] at nx
      have ms := made_step r hL e
      rw [la, lb] at ms
      have hlen := hL.k.1
      have l1 : ls.length < 16777216 := by omega
      have hc : SLf r (ls ++ [stepAt r ls s]) ys = SL r sts := hc
      have fin : ∀ s3 s6 s7 s8 : Sl, ILn r sts ys [.val (.tuple (sts.map St.enc)), .val (encR r), .own (.list (ls.map (encE r) ++ [encE r (stepAt r ls s)])), s3, .val (.int (46656 * r.1)), .val (.int (46656 * r.2)), s6, s7, s8] :=
        fun s3 s6 s7 s8 => ⟨ks ++ [k], ks', j + 1, ls ++ [stepAt r ls s], s3, s6, s7, s8, by simp, nx, hk, by omega, by simp; omega, hc⟩
      cases oa with
      | none =>
        have en : encE r (stepAt r ls s) = .none := by unfold encE; rw [ms]; rfl
        rw [en] at fin
        simp [Fo.start, ownAt_eq, bindT_name, parS_cons, ownS_list, ownS_dict, isLst, Tg.slots, wipeR, backR, occ, isOwn, pkI_var, evE_lc, enc_1, enc_2, ga, gb, isN_E, kApp3_ok, l1]
        exact fin _ _ _ _
      | some a =>
        cases ob with
        | none =>
          have en : encE r (stepAt r ls s) = .none := by unfold encE; rw [ms]; rfl
          rw [en] at fin
          simp [Fo.start, ownAt_eq, bindT_name, parS_cons, ownS_list, ownS_dict, isLst, Tg.slots, wipeR, backR, occ, isOwn, pkI_var, evE_lc, enc_1, enc_2, ga, gb, isN_E, kApp3_ok, l1]
          exact fin _ _ _ _
        | some b =>
          have g1 := r_law_made n s (evL r a) (evL r b) (46656 * r.1) (46656 * r.2) (fun i j k hs => by subst hs; exact (st_ok e hL.k ga gb).1)
          have en : encE r (stepAt r ls s) = encOW (madeW s (evL r a) (evL r b) (46656 * r.1) (46656 * r.2)) := by unfold encE; rw [ms]
          rw [en] at fin
          simp [Fo.start, ownAt_eq, bindT_name, parS_cons, ownS_list, ownS_dict, isLst, Tg.slots, wipeR, backR, occ, isOwn, pkI_var, evE_lc, enc_1, enc_2, ga, gb, isN_E, kApp3_ok, l1, encE_some, isN_W, g1]
          exact fin _ _ _ _
  · rintro _ ⟨ks, ks', j, ls, s3, s6, s7, s8, rfl, hL, hk, hj, hkl, hc⟩
    simp [Fo.start, ownAt_eq, bindT_name, parS_cons, ownS_list, ownS_dict, isLst, Tg.slots, wipeR, backR, occ, isOwn, pkI_var, evE_lc]
    rw [← hc]
    rfl
  · exact ⟨E0, ks0, 0, EL, _, _, _, _, rfl, by simpa using lok_start, hk0, by omega, rfl, rfl⟩
theorem SLf_len (r : Ln) : ∀ (sts : List St) (ls : List (Option Lne)), (SLf r ls sts).length = ls.length + sts.length
  | [], ls => rfl
  | s :: t, ls => by
    have := SLf_len r t (ls ++ [stepAt r ls s])
    show (SLf r (ls ++ [stepAt r ls s]) t).length = _
    rw [this]
    simp
    omega
theorem SL_len (r : Ln) (sts : List St) : (SL r sts).length = 4 + sts.length := SLf_len r sts EL
theorem zip_range {α : Type} [Inhabited α] (xs : List α) : (List.range xs.length).zip xs = (List.range xs.length).map fun i => (i, xs.getD i default) := by
  apply List.ext_getElem
  · simp
  · intro i h1 h2
    simp at h1 h2
    simp [h1, List.getD_eq_getElem?_getD]
theorem madeIx_eq (ls : List (Option Lne)) (h : 4 ≤ ls.length) : madeIx ls = (List.range (ls.length - 4)).filter fun i => (lnAt ls (i + 4)).isSome := by
  unfold madeIx zipIx
  have e : (List.range (ls.drop 4).length).zip (ls.drop 4) = (List.range (ls.length - 4)).map fun i => (i, lnAt ls (i + 4)) := by
    apply List.ext_getElem
    · simp
    · intro i h1 h2
      simp at h1 h2
      simp [lnAt]
      have : 4 + i < ls.length := by omega
      rw [Nat.add_comm i 4, List.getElem?_eq_getElem this]
      rfl
  rw [e, List.filter_map, List.map_map]
  simp [Function.comp_def]
theorem r_law_less (n : Nat) (a b : Ln) (h : LB M0 a ∨ LB M0 b) : callF Q (n + 1) 78 [encR a, encR b] = .ok (.bool (lessR a b), []) := by
  rw [callQ (F := F78) rfl rfl]
  have hm : mulOk a.1 b.2 = true ∧ mulOk b.1 a.2 = true := by
    rcases h with h | h
    · obtain ⟨m1, m2, m3, m4⟩ := mulOk_LB h (Int.le_refl _)
      exact ⟨m1 _, m4 _⟩
    · obtain ⟨m1, m2, m3, m4⟩ := mulOk_LB h (Int.le_refl _)
      exact ⟨m4 _, m1 _⟩
  simp [F78, Fo.start, ownAt_eq, bindT_name, parS_cons, ownS_list, ownS_dict, isLst, Tg.slots, wipeR, backR, occ, isOwn, pkI_var, evE_lc, encR, lessR, hm.1, hm.2]
theorem r_law_in (n : Nat) (g : Rg) (r : Ln) (h1 : LB M0 g.1) (h2 : LB M0 g.2.2.1) : callF Q (n + 2) 79 [encRg g, encR r] = .ok (.bool (inRg g r), []) := by
  rw [callQ (F := F79) rfl rfl]
  have e1 := r_law_less n g.1 r (.inl h1)
  have e2 := r_law_less n r g.2.2.1 (.inr h2)
  by_cases c1 : g.1 = r
  · simp [F79, Fo.start, ownAt_eq, bindT_name, parS_cons, ownS_list, ownS_dict, isLst, Tg.slots, wipeR, backR, occ, isOwn, pkI_var, evE_lc, encRg, eqv_R, eqOk_R, c1, inRg]
  · by_cases c2 : g.2.2.1 = r
    · simp [F79, Fo.start, ownAt_eq, bindT_name, parS_cons, ownS_list, ownS_dict, isLst, Tg.slots, wipeR, backR, occ, isOwn, pkI_var, evE_lc, encRg, eqv_R, eqOk_R, c1, c2, inRg]
    · cases l1 : lessR g.1 r <;> rw [l1] at e1 <;> simp [F79, Fo.start, ownAt_eq, bindT_name, parS_cons, ownS_list, ownS_dict, isLst, Tg.slots, wipeR, backR, occ, isOwn, pkI_var, evE_lc, encRg, eqv_R, eqOk_R, c1, c2, inRg, e1, e2, l1]
theorem r_law_ends (n : Nat) (gs : List Rg) (hl : gs.length ≤ 8000000) : callF Q (n + 1) 80 [.list (gs.map encRg)] = .ok (.list ((gs.map (·.1) ++ gs.map (·.2.2.1)).map encR), []) := by
  rw [callQ (F := F80) rfl rfl]
  have l1 : gs.length ≤ 16777216 := by omega
  have l2 : gs.length + gs.length ≤ 16777216 := by omega
  have f : ∀ gs : List Rg, (gs.filter fun _ => true) = gs := fun gs => List.filter_eq_self.mpr fun _ _ => rfl
  simp only [F80]
  simp [Fo.start, ownAt_eq, bindT_name, parS_cons, ownS_list, ownS_dict, isLst, Tg.slots, wipeR, backR, occ, isOwn, pkI_var, evE_lc, kLc_ok, l1]
  rw [lcGo_map encRg (fun g : Rg => encR g.1) (fun _ => true) gs ?c1]
  case c1 =>
    intro g hg
    exact ⟨_, bindT_name _ _ _ (by simp), rfl, fun _ => by simp [Fo.start, ownAt_eq, bindT_name, parS_cons, ownS_list, ownS_dict, isLst, Tg.slots, wipeR, backR, occ, isOwn, pkI_var, evE_lc, encRg], by simp [wipeR]⟩
  rw [f]
  simp [Fo.start, ownAt_eq, bindT_name, parS_cons, ownS_list, ownS_dict, isLst, Tg.slots, wipeR, backR, occ, isOwn, pkI_var, evE_lc, kLc_ok, l1]
  rw [lcGo_map encRg (fun g : Rg => encR g.2.2.1) (fun _ => true) gs ?c2]
  case c2 =>
    intro g hg
    exact ⟨_, bindT_name _ _ _ (by simp), rfl, fun _ => by simp [Fo.start, ownAt_eq, bindT_name, parS_cons, ownS_list, ownS_dict, isLst, Tg.slots, wipeR, backR, occ, isOwn, pkI_var, evE_lc, encRg], by simp [wipeR]⟩
  rw [f]
  simp [Fo.start, ownAt_eq, bindT_name, parS_cons, ownS_list, ownS_dict, isLst, Tg.slots, wipeR, backR, occ, isOwn, pkI_var, evE_lc, l2, Function.comp_def]
end Lk

set_option Elab.async false
set_option linter.all false
set_option maxRecDepth 100000
set_option maxHeartbeats 4000000
/-! QR: _law_whole_right. -/
namespace Lk
open PySem Fo
section
variable {α : Type} [DecidableEq α]
theorem con_at : ∀ {R : List (Rg × α)} {i : Nat} {a b : Rg × α}, Con R → R[i]? = some a → R[i + 1]? = some b → link a b
  | [], i, a, b, _, h, _ => by simp at h
  | [x], i, a, b, _, _, h => by simp at h
  | x :: y :: r, 0, a, b, h, h1, h2 => by
    simp at h1 h2
    subst h1 h2
    exact h.1
  | x :: y :: r, i + 1, a, b, h, h1, h2 => con_at (R := y :: r) h.2 (by simpa using h1) (by simpa using h2)
def IWr (enc : α → PyData) (R : List (Rg × α)) (ρ : Rho) : Prop := ∃ s1 s2 s3, ρ = [.val (.list (R.map (encRow enc))), s1, s2, s3]
end
section
variable {α : Type} [DecidableEq α]
theorem join_ends (E : Ln → Prop) : ∀ (ps : List (Pce × α)) (found : List (Rg × α)), (∀ p ∈ ps, E p.1.1 ∧ E p.1.2.1) → (∀ g ∈ found, E g.1.1 ∧ E g.1.2.2.1) → ∀ g ∈ joinF found ps, E g.1.1 ∧ E g.1.2.2.1
  | [], found, _, hf => hf
  | p :: r, found, hp, hf => by
    refine join_ends E r (joinS found p) (fun q hq => hp q (.tail _ hq)) ?_
    obtain ⟨p1, p2⟩ := hp p (.head _)
    intro g hg
    unfold joinS at hg
    split at hg
    · rename_i rg u e
      have hm := List.mem_of_getLast? e
      split at hg
      · rcases List.mem_append.mp hg with hg | hg
        · exact hf g ((List.dropLast_sublist _).subset hg)
        · simp at hg
          subst hg
          exact ⟨(hf _ hm).1, p2⟩
      · rcases List.mem_append.mp hg with hg | hg
        · exact hf g hg
        · simp at hg
          subst hg
          exact ⟨p1, p2⟩
    · simp at hg
      subst hg
      exact ⟨p1, p2⟩
theorem joinF_len : ∀ (ps : List (Pce × α)) (found : List (Rg × α)), (joinF found ps).length ≤ found.length + ps.length
  | [], found => by simp [joinF]
  | p :: r, found => by
    have := joinF_len r (joinS found p)
    have h2 := joinS_len found p
    show (joinF (joinS found p) r).length ≤ _
    simp only [List.length_cons]
    omega
end
def endOk (l : Ln) : Prop := LB M0 l ∧ red l
theorem noOwn_of {b : Ex} {ρ : Rho} (h : ∀ i, occ i b = true → isOwn ρ[i]? = false) : noOwnIn b ρ = true := by
  unfold noOwnIn
  rw [List.all_eq_true]
  intro i _
  cases e : occ i b with
  | false => rfl
  | true => rw [h i e]; rfl
@[simp] theorem ctx_lv (P : Prog) (n : Nat) : (P.ctx n).lv = n := rfl
@[simp] theorem ctx_lam (P : Prog) (n : Nat) : (P.ctx n).lam = P.lam := rfl
end Lk

set_option Elab.async false
set_option linter.all false
set_option maxRecDepth 100000
set_option maxHeartbeats 4000000
/-! QS: refined, same_rows, same_line: run. -/
namespace Lk
open PySem Fo
def refL (p : Pce) (g : Ln) : List Pce := match rootIn p.1 p.2.1 g with
  | some r => cutAt p r
  | none => [p]
theorem first_one (lo hi g : Ln) : firstRoot lo hi [g] = rootIn lo hi g := by
  unfold firstRoot
  cases h : rootIn lo hi g <;> simp [firstRoot]
theorem r_ref3 (n : Nat) (p1 p2 p3 : Pce) (g : Ln) (hb : LB M0 g) (h1 : rootIn p1.1 p1.2.1 g = none) (h2 : rootIn p2.1 p2.2.1 g = none) (h3 : rootIn p3.1 p3.2.1 g = none) :
    callF Q (n + 6) 84 [.list [encP p1, encP p2, encP p3], .list [.list [encR g], .list [encR g], .list [encR g]]] = .ok (.list [encP p1, encP p2, encP p3], []) := by
  have er := fun (p : Pce) => r_first_root n p [g] (fun l hl => by simp at hl; subst hl; exact hb)
  have e1 := er p1
  have e2 := er p2
  have e3 := er p3
  rw [first_one, h1] at e1
  rw [first_one, h2] at e2
  rw [first_one, h3] at e3
  have e1 : callF Q (n + 5) 45 [encP p1, .list [encR g]] = .ok (.none, []) := e1
  have e2 : callF Q (n + 5) 45 [encP p2, .list [encR g]] = .ok (.none, []) := e2
  have e3 : callF Q (n + 5) 45 [encP p3, .list [encR g]] = .ok (.none, []) := e3
  rw [callQ (F := F84) rfl rfl]
  generalize encP p1 = d1 at *
  generalize encP p2 = d2 at *
  generalize encP p3 = d3 at *
  simp [F84, Fo.start, ownAt_eq, bindT_name, parS_cons, ownS_list, ownS_dict, isLst, Tg.slots, wipeR, backR, occ, isOwn, pkI_var, evE_lc, zipD, goL, e1, e2, e3, kApp3_ok]
theorem r_refined (n : Nat) (p : Pce) (g : Ln) (hb : LB M0 g) (pc : PieceOk p.1 p.2.1) : callF Q (n + 7) 84 [.list [encP p], .list [.list [encR g]]] = .ok (.list ((refL p g).map encP), []) := by
  have er := r_first_root (n + 1) p [g] (fun l hl => by simp at hl; subst hl; exact hb)
  rw [first_one] at er
  rw [callQ (F := F84) rfl rfl]
  unfold refL
  cases h : rootIn p.1 p.2.1 g with
  | none =>
    rw [h] at er
    have er : callF Q (n + 6) 45 [encP p, .list [encR g]] = .ok (.none, []) := er
    show _ = Fo.R.ok (PyData.list [encP p], [])
    clear pc
    generalize encP p = d1 at *
    simp [F84, Fo.start, ownAt_eq, bindT_name, parS_cons, ownS_list, ownS_dict, isLst, Tg.slots, wipeR, backR, occ, isOwn, pkI_var, evE_lc, zipD, goL, er, kApp3_ok]
  | some r =>
    rw [h] at er
    have er : callF Q (n + 6) 45 [encP p, .list [encR g]] = .ok (encR r, []) := er
    obtain ⟨e1, e2, e3⟩ := rootIn_some h
    have hp := rootL_pos e1
    have no : ∀ {x y : Ln}, ¬ (lessR x r = true ∧ lessR r y = true) → rootIn x y g = none := by
      intro x y hn
      unfold rootIn
      rw [e1]
      simp only
      rw [if_neg hn]
    have ec := r_cut_at (n + 5) p r
    have e4 := r_ref3 n (p.1, r, p.2.2) (r, r, p.2.2) (r, p.2.1, p.2.2) g hb (no (by simp [lessR_irr])) (no (by simp [lessR_irr])) (no (by simp [lessR_irr]))
    simp only [cutAt, List.map_cons, List.map_nil] at ec ⊢
    generalize encP p = d1 at *
    generalize encP (p.1, r, p.2.2) = d2 at *
    generalize encP (r, r, p.2.2) = d3 at *
    generalize encP (r, p.2.1, p.2.2) = d4 at *
    simp [F84, Fo.start, ownAt_eq, bindT_name, parS_cons, ownS_list, ownS_dict, isLst, Tg.slots, wipeR, backR, occ, isOwn, pkI_var, evE_lc, zipD, goL, er, ec, e4, isN_R]
def refP (i j : Nat) (p : Pce) : List Pce := match lnAt p.2.2 i, lnAt p.2.2 j with
  | some a, some b => if a.1 = b.1 then refL p (minusL a.2 b.2) else [p]
  | _, _ => [p]
def valP (i j : Nat) (q : Pce) : Bool := match lnAt q.2.2 i, lnAt q.2.2 j with
  | some a, some b => decide (a.1 = b.1) && decide (signIn q.1 q.2.1 (minusL a.2 b.2) = 0)
  | _, _ => false
theorem refL_len (p : Pce) (g : Ln) : (refL p g).length ≤ 3 := by
  unfold refL
  split
  · simp [cutAt]
  · simp
theorem refL_ls {p q : Pce} {g : Ln} (h : q ∈ refL p g) : q.2.2 = p.2.2 := by
  unfold refL at h
  split at h
  · simp [cutAt] at h
    rcases h with rfl | rfl | rfl <;> rfl
  · simp at h
    rw [h]
theorem refP_len (i j : Nat) (p : Pce) : (refP i j p).length ≤ 3 := by
  unfold refP
  split
  · split
    · exact refL_len _ _
    · simp
  · simp
theorem refP_ls {i j : Nat} {p q : Pce} (h : q ∈ refP i j p) : q.2.2 = p.2.2 := by
  unfold refP at h
  split at h
  · split at h
    · exact refL_ls h
    · simp at h; rw [h]
  · simp at h; rw [h]
def encB (b : Bool) : PyData := .bool b
def rowB (i j : Nat) (q : Pce) : Pce × Bool := (q, valP i j q)
structure RowOk (i j : Nat) (p : Pce) : Prop where
  pc : PieceOk p.1 p.2.1
  ln : p.2.2.length ≤ 1000
  i1 : i < p.2.2.length
  i2 : j < p.2.2.length
  b : ∀ l, some l ∈ p.2.2 → LB 191102976 l.2
theorem refL_pc {p : Pce} {g : Ln} (pc : PieceOk p.1 p.2.1) (hb : LB M0 g) : ∀ q ∈ refL p g, PieceOk q.1 q.2.1 ∧ rootIn q.1 q.2.1 g = none := by
  intro q hq
  unfold refL at hq
  split at hq
  · rename_i r h
    obtain ⟨e1, e2, e3⟩ := rootIn_some h
    have hp := rootL_pos e1
    have no : ∀ {x y : Ln}, ¬ (lessR x r = true ∧ lessR r y = true) → rootIn x y g = none := by
      intro x y hn
      unfold rootIn
      rw [e1]
      simp only
      rw [if_neg hn]
    obtain ⟨o1, o2, o3⟩ := cut_ok pc hp (rootL_LB hb e1) (rootL_red e1) e2 e3
    simp [cutAt] at hq
    rcases hq with rfl | rfl | rfl
    · exact ⟨o1, no (by simp [lessR_irr])⟩
    · exact ⟨o2, no (by simp [lessR_irr])⟩
    · exact ⟨o3, no (by simp [lessR_irr])⟩
  · rename_i h
    simp at hq
    rw [hq]
    exact ⟨pc, h⟩
theorem gap_LB {a b : Ln} (h1 : LB 191102976 a) (h2 : LB 191102976 b) : LB M0 (minusL a b) := (h1.minus h2).mono (by decide)
def ISr (i j : Nat) (ps rest : List Pce) (ρ : Rho) : Prop := ∃ (done : List Pce) (s4 s5 s6 s7 s8 : Sl), ps = done ++ rest ∧ ρ = [.val (.list (ps.map encP)), .val (.int i), .val (.int j), .own (.list (((done.flatMap (refP i j)).map (rowB i j)).map (encPR encB))), s4, s5, s6, s7, s8]
theorem r_same_rows (n : Nat) (i j : Nat) (ps : List Pce) (hl : ps.length ≤ 1000000) (H : ∀ p ∈ ps, RowOk i j p) :
    callF Q (n + 8) 91 [.list (ps.map encP), .int i, .int j] = .ok (.list (((ps.flatMap (refP i j)).map (rowB i j)).map (encPR encB)), []) := by
  refine ok_of ?_
  rw [callQ (F := F91) rfl rfl]
  refine wp_fin ?_
  simp only [F91]
  simp [Fo.start, ownAt_eq, bindT_name, parS_cons, ownS_list, ownS_dict, isLst, Tg.slots, wipeR, backR, occ, isOwn, pkI_var, evE_lc]
  refine wp_seq (wp_goM (fun rest ρ => ISr i j ps rest ρ) ?_ ?_ ?_)
  · rintro p rest _ ⟨done, s4, s5, s6, s7, s8, he, rfl⟩
    obtain ⟨pc, ln, i1, i2, hb⟩ := H p (by rw [he]; simp)
    obtain ⟨lo, hi, ls⟩ := p
    simp only at pc ln i1 i2 hb
    have ep : encP (lo, hi, ls) = .tuple [encR lo, encR hi, .tuple (ls.map encO)] := rfl
    obtain ⟨oa, ga⟩ : ∃ o, ls[i]? = some o := ⟨_, List.getElem?_eq_getElem i1⟩
    obtain ⟨ob, gb⟩ : ∃ o, ls[j]? = some o := ⟨_, List.getElem?_eq_getElem i2⟩
    have la := lnAt_some ga
    have lb := lnAt_some gb
    have ld := len_flat (g := refP i j) (N := 3) (ps := done) fun q hq => refP_len i j q
    have ldn : done.length + 1 ≤ ps.length := by rw [he]; simp
    have l1 : (done.flatMap (refP i j)).length < 16777216 := by omega
    have next : ∀ (q : List PyData) (s4 s5 s6 s7 s8 : Sl), q = ((refP i j (lo, hi, ls)).map (rowB i j)).map (encPR encB) →
        ISr i j ps rest [.val (.list (ps.map encP)), .val (.int i), .val (.int j), .own (.list (((done.flatMap (refP i j)).map (rowB i j)).map (encPR encB) ++ q)), s4, s5, s6, s7, s8] := by
      rintro q s4 s5 s6 s7 s8 rfl
      exact ⟨done ++ [(lo, hi, ls)], _, _, _, _, _, by rw [he]; simp, by simp; exact ⟨rfl, rfl, rfl, rfl, rfl⟩⟩
    have single : refP i j (lo, hi, ls) = [(lo, hi, ls)] → valP i j (lo, hi, ls) = false → [PyData.tuple [encP (lo, hi, ls), .bool false]] = ((refP i j (lo, hi, ls)).map (rowB i j)).map (encPR encB) := by
      intro h1 h2
      rw [h1]
      simp [rowB, h2, encPR, encB]
    generalize hR : ((done.flatMap (refP i j)).map (rowB i j)).map (encPR encB) = R at *
    have l2 : R.length < 16777216 := by rw [← hR]; simpa using l1
    cases oa with
    | none =>
      have n2 := next _ (.val (encP (lo, hi, ls))) (.val .none) (.val (encO ob)) s7 s8 (single (by unfold refP; simp only [la]) (by unfold valP; simp only [la]))
      rw [ep] at n2
      simp [Fo.start, ownAt_eq, bindT_name, parS_cons, ownS_list, ownS_dict, isLst, Tg.slots, wipeR, backR, occ, isOwn, pkI_var, evE_lc, ep, ga, gb, isN_O, kApp3_ok, l2]
      exact n2
    | some a =>
      cases ob with
      | none =>
        have n2 := next _ (.val (encP (lo, hi, ls))) (.val (encO (some a))) (.val .none) s7 s8 (single (by unfold refP; simp only [la, lb]) (by unfold valP; simp only [la, lb]))
        rw [ep] at n2
        simp [Fo.start, ownAt_eq, bindT_name, parS_cons, ownS_list, ownS_dict, isLst, Tg.slots, wipeR, backR, occ, isOwn, pkI_var, evE_lc, ep, ga, gb, isN_O, kApp3_ok, l2]
        exact n2
      | some b =>
        have eo : ∀ l : Lne, encO (some l) = .tuple [l.1.d, encR l.2] := fun _ => rfl
        have ha := hb a (List.mem_of_getElem? ga)
        have hb' := hb b (List.mem_of_getElem? gb)
        have gl := gap_LB ha hb'
        by_cases hk : a.1 = b.1
        · have eP : refP i j (lo, hi, ls) = refL (lo, hi, ls) (minusL a.2 b.2) := by unfold refP; simp only [la, lb, hk, if_true]
          have e1 := r_minus (n + 6) a.2 b.2
          have e2 := r_refined n (lo, hi, ls) (minusL a.2 b.2) gl pc
          have e3 : ∀ q ∈ refL (lo, hi, ls) (minusL a.2 b.2), callF Q (n + 7) 43 [encP q, encR (minusL a.2 b.2)] = .ok (.int (signIn q.1 q.2.1 (minusL a.2 b.2)), []) := fun q hq => by
            obtain ⟨pq, _⟩ := refL_pc pc gl q hq
            exact r_sign_in (n + 3) q (minusL a.2 b.2) (endLo pq) (endHi pq) (sumPos pq) gl
          have ev : ∀ q ∈ refL (lo, hi, ls) (minusL a.2 b.2), valP i j q = decide (signIn q.1 q.2.1 (minusL a.2 b.2) = 0) := fun q hq => by
            unfold valP
            rw [refL_ls hq]
            simp only [la, lb, hk, decide_true, Bool.true_and]
          have rl := refL_len (lo, hi, ls) (minusL a.2 b.2)
          have rl2 : (refL (lo, hi, ls) (minusL a.2 b.2)).length ≤ 16777216 := by omega
          have l3 : R.length + (refL (lo, hi, ls) (minusL a.2 b.2)).length ≤ 16777216 := by rw [← hR]; simp only [List.length_map]; omega
          rw [eP] at next
          rw [ep] at e2
          simp [Fo.start, ownAt_eq, bindT_name, parS_cons, ownS_list, ownS_dict, isLst, Tg.slots, wipeR, backR, occ, isOwn, pkI_var, evE_lc, ep, ga, gb, isN_O, eo, eqK, okK, hk, e1, e2, kLc_ok, rl2]
          rw [lcGo_map encP (fun q => encPR encB (rowB i j q)) (fun _ => true) _ ?c1]
          case c1 =>
            intro q hq
            refine ⟨_, bindT_name _ _ _ (by simp), rfl, fun _ => ?_, by simp [wipeR]⟩
            have q1 := e3 q hq
            have q2 := ev q hq
            simp [Fo.start, ownAt_eq, bindT_name, parS_cons, ownS_list, ownS_dict, isLst, Tg.slots, wipeR, backR, occ, isOwn, pkI_var, evE_lc, q1, encPR, rowB, q2, encB]
          have f1 : ((refL (lo, hi, ls) (minusL a.2 b.2)).filter fun _ => true) = refL (lo, hi, ls) (minusL a.2 b.2) := List.filter_eq_self.mpr fun _ _ => rfl
          rw [f1]
          simp [Fo.start, ownAt_eq, bindT_name, parS_cons, ownS_list, ownS_dict, isLst, Tg.slots, wipeR, backR, occ, isOwn, pkI_var, evE_lc, l3]
          exact next _ _ _ _ _ _ (by rw [List.map_map]; rfl)
        · have n2 := next _ (.val (encP (lo, hi, ls))) (.val (encO (some a))) (.val (encO (some b))) s7 s8 (single (by unfold refP; simp only [la, lb, hk, if_false]) (by unfold valP; simp only [la, lb, hk, decide_false, Bool.false_and]))
          rw [ep] at n2
          simp [Fo.start, ownAt_eq, bindT_name, parS_cons, ownS_list, ownS_dict, isLst, Tg.slots, wipeR, backR, occ, isOwn, pkI_var, evE_lc, ep, ga, gb, isN_O, eo, eqK, okK, hk, kApp3_ok, l2]
          exact n2
  · rintro _ ⟨done, s4, s5, s6, s7, s8, he, rfl⟩
    simp at he
    subst he
    simp [Fo.start, ownAt_eq, bindT_name, parS_cons, ownS_list, ownS_dict, isLst, Tg.slots, wipeR, backR, occ, isOwn, pkI_var, evE_lc]
  · exact ⟨[], _, _, _, _, _, rfl, rfl⟩
end Lk

set_option Elab.async false
set_option linter.all false
set_option maxRecDepth 100000
set_option maxHeartbeats 4000000
/-! QT: need_number, ranges_true, same_line: run. -/
namespace Lk
open PySem Fo
theorem r_need_number (n : Nat) (d : PyData) (lo hi : Int) (h : plainD d = true) : callF Q (n + 3) 33 [d, .int lo, .int hi] = if isWhole d lo hi = true then .ok (.none, []) else .exc 3 := by
  rw [callQ (F := F33) rfl rfl]
  have := r_is_whole n d lo hi h
  cases e : isWhole d lo hi <;> simp [F33, Fo.start, ownAt_eq, bindT_name, parS_cons, ownS_list, ownS_dict, isLst, Tg.slots, wipeR, backR, occ, isOwn, pkI_var, evE_lc, this, e]
theorem eqv_B (a b : Bool) : PyData.eqv (encB a) (encB b) = decide (a = b) := by cases a <;> cases b <;> simp [encB]
theorem r_ranges_true (n : Nat) (rows : List (Pce × Bool)) (hl : rows.length ≤ 8000000) : callF Q (n + 3) 90 [.list (rows.map (encPR encB))] = .ok (.list ((((joinF [] rows).filter fun x => x.2).map (·.1)).map encRg), []) := by
  have j := r_joined n encB (fun a => pv_bool _ _ _) eqv_B rows (by omega)
  have jl := joinF_len rows []
  rw [callQ (F := F90) rfl rfl]
  have l1 : (joinF [] rows).length ≤ 16777216 := by simp at jl; omega
  simp only [F90]
  simp [Fo.start, ownAt_eq, bindT_name, parS_cons, ownS_list, ownS_dict, isLst, Tg.slots, wipeR, backR, occ, isOwn, pkI_var, evE_lc, j, kLc_ok, l1]
  rw [lcGo_map (encRow encB) (fun x => encRg x.1) (fun x => x.2) _ ?c1]
  case c1 =>
    rintro ⟨g, b⟩ hx
    refine ⟨[.val (.list (rows.map (encPR encB))), .val (encRg g), .val (.bool b)], by simp [Fo.start, ownAt_eq, bindT_name, parS_cons, ownS_list, ownS_dict, isLst, Tg.slots, wipeR, backR, occ, isOwn, pkI_var, evE_lc, encRow, encB], ?_, fun _ => by simp [Fo.start, ownAt_eq, bindT_name, parS_cons, ownS_list, ownS_dict, isLst, Tg.slots, wipeR, backR, occ, isOwn, pkI_var, evE_lc], by simp [wipeR]⟩
    simp [tstR, isZero, Fo.start, ownAt_eq, bindT_name, parS_cons, ownS_list, ownS_dict, isLst, Tg.slots, wipeR, backR, occ, isOwn, pkI_var, evE_lc, boolR]
  simp [Fo.start, ownAt_eq, bindT_name, parS_cons, ownS_list, ownS_dict, isLst, Tg.slots, wipeR, backR, occ, isOwn, pkI_var, evE_lc, Function.comp_def]
def refsL (sts : List St) (i j : Nat) : List Pce := (courseL sts).flatMap (refP i j)
def sameL (sts : List St) (i j : Nat) : List (Rg × Bool) := joinF [] ((refsL sts i j).map (rowB i j))
def foundL (sts : List St) (i j : Nat) : List Rg := ((sameL sts i j).filter fun x => x.2).map (·.1)
theorem course_row {sts : List St} {ks : List Kd} {i j : Nat} (hk : kindsP E0 sts = some ks) (hl : sts.length ≤ 6) (hi : i < sts.length + 4) (hj : j < sts.length + 4) : (courseL sts).length ≤ 235297 ∧ ∀ p ∈ courseL sts, RowOk i j p := by
  have C := course_inv hk hl
  have h7 := pow7 hl
  have hn := C.ln
  have kl := kindsP_len hk
  simp [E0] at kl
  refine ⟨by omega, fun p hp => ?_⟩
  obtain ⟨pc, lk, _⟩ := C.pc p hp
  have k1 := lk.k.1
  have b4 : (4 : Int) ^ sts.length ≤ 4 ^ 6 := by
    have : (4 : Nat) ^ sts.length ≤ 4 ^ 6 := Nat.pow_le_pow_right (by decide) hl
    exact_mod_cast this
  have b6 : (4 : Int) ^ 6 = 4096 := by decide
  exact ⟨pc, by omega, by omega, by omega, fun l hl => (lk.b l hl).mono (by omega)⟩
theorem refs_len {sts : List St} {ks : List Kd} {i j : Nat} (hk : kindsP E0 sts = some ks) (hl : sts.length ≤ 6) : (refsL sts i j).length ≤ 705891 := by
  have C := course_inv hk hl
  have h7 := pow7 hl
  have hn := C.ln
  have := len_flat (g := refP i j) (N := 3) (ps := courseL sts) fun q _ => refP_len i j q
  unfold refsL
  omega
theorem whole_nt {i m : Nat} (h : i < m + 4) : isWhole (.int (i : Int)) 0 ((m : Int) + 3) = true := by
  simp [isWhole]
  omega
theorem r_same_line (n : Nat) (sts : List St) (i j : Nat) (hP : Plan sts) (hl : sts.length ≤ 6) (hi : i < sts.length + 4) (hj : j < sts.length + 4) :
    callF Q (n + 15) 92 [.tuple (sts.map St.enc), .int i, .int j] = .ok (.list ((foundL sts i j).map encRg), []) := by
  have hc := r_course n sts hP hl
  obtain ⟨ks, hk⟩ := hP
  obtain ⟨c1, c2⟩ := course_row hk hl hi hj
  have c3 := refs_len (i := i) (j := j) hk hl
  have g1 := r_need_plan (n + 8) 2 6 _ (pv_plan sts hl)
  rw [planK_enc' hk hl] at g1
  have g2 := r_need_number (n + 11) (.int (i : Int)) 0 ((sts.length : Int) + 3) rfl
  have g3 := r_need_number (n + 11) (.int (j : Int)) 0 ((sts.length : Int) + 3) rfl
  rw [if_pos (whole_nt hi)] at g2
  rw [if_pos (whole_nt hj)] at g3
  have g4 := r_same_rows (n + 6) i j (courseL sts) (by omega) c2
  have g5 := r_ranges_true (n + 11) ((refsL sts i j).map (rowB i j)) (by simp; omega)
  unfold refsL at g5
  rw [callQ (F := F92) rfl rfl]
  generalize hR : ((courseL sts).flatMap (refP i j)).map (rowB i j) = R at *
  simp only [F92]
  simp [Fo.start, ownAt_eq, bindT_name, parS_cons, ownS_list, ownS_dict, isLst, Tg.slots, wipeR, backR, occ, isOwn, pkI_var, evE_lc, g1, g2, g3, hc, g4, g5, foundL, sameL, refsL, hR]
theorem r_same_exc (n : Nat) (sts : List St) (a b : PyData) (hP : Plan sts) (hl : sts.length ≤ 6) (ha : plainD a = true) (hb : plainD b = true) (h : (isWhole a 0 ((sts.length : Int) + 3) && isWhole b 0 ((sts.length : Int) + 3)) = false) :
    callF Q (n + 15) 92 [.tuple (sts.map St.enc), a, b] = .exc 3 := by
  obtain ⟨ks, hk⟩ := hP
  have g1 := r_need_plan (n + 8) 2 6 _ (pv_plan sts hl)
  rw [planK_enc' hk hl] at g1
  have g2 := r_need_number (n + 11) a 0 ((sts.length : Int) + 3) ha
  have g3 := r_need_number (n + 11) b 0 ((sts.length : Int) + 3) hb
  rw [callQ (F := F92) rfl rfl]
  simp only [F92]
  cases e1 : isWhole a 0 ((sts.length : Int) + 3) with
  | false =>
    rw [e1] at g2
    simp [Fo.start, ownAt_eq, bindT_name, parS_cons, ownS_list, ownS_dict, isLst, Tg.slots, wipeR, backR, occ, isOwn, pkI_var, evE_lc, g1, g2]
  | true =>
    rw [e1] at h g2
    have h : isWhole b 0 ((sts.length : Int) + 3) = false := h
    rw [h] at g3
    simp [Fo.start, ownAt_eq, bindT_name, parS_cons, ownS_list, ownS_dict, isLst, Tg.slots, wipeR, backR, occ, isOwn, pkI_var, evE_lc, g1, g2, g3]
end Lk

set_option Elab.async false
set_option linter.all false
set_option maxRecDepth 100000
set_option maxHeartbeats 4000000
/-! QU: same_line: what the ranges tell. -/
namespace Lk
open PySem Fo
/-- lines that are one at a ratio -/
def oneAt (r : Ln) (sts : List St) (i j : Nat) : Bool := match lnAt (SL r sts) i, lnAt (SL r sts) j with
  | some a, some b => decide (a.1 = b.1) && decide (worthL a.2 r = worthL b.2 r)
  | _, _ => false
theorem cut_sub {lo hi x : Ln} (pc : PieceOk lo hi) (hp : Rat x) (e2 : lessR lo x = true) (e3 : lessR x hi = true) {z : Ln} (hz : Rat z) : (inP lo x z → inP lo hi z) ∧ (inP x x z → inP lo hi z) ∧ (inP x hi z → inP lo hi z) := by
  have hlo : 0 ≤ lo.1 ∧ 0 < lo.2 := ⟨pc.l1, pc.l2⟩
  have hhi : 0 < hi.1 ∧ 0 ≤ hi.2 := ⟨pc.h1, pc.h2⟩
  have nlt : lo ≠ x := less_ne e2
  have ngt : x ≠ hi := less_ne e3
  refine ⟨fun h => ?_, fun h => ?_, fun h => ?_⟩
  · rcases h with ⟨z1, _⟩ | ⟨z1, z2⟩
    · exact absurd z1 nlt
    · exact .inr ⟨z1, lessR_trans hz.2 hp.2 pc.h2 z2 e3⟩
  · rcases h with ⟨_, sz⟩ | ⟨z1, z2⟩
    · have n1 : ¬ lessR z x = true := by rw [lessR_iff]; unfold sameR at sz; omega
      have n2 : ¬ lessR x z = true := by rw [lessR_iff]; unfold sameR at sz; omega
      exact .inr ⟨lessR_trans3 hlo hp ⟨hz.1, by have := hz.2; omega⟩ e2 n1, lessR_trans2 ⟨by have := hz.1; omega, hz.2⟩ hp hhi n2 e3⟩
    · have := lessR_trans hp.2 hz.2 (by have := hp.2; omega) z1 z2
      rw [lessR_irr] at this
      cases this
  · rcases h with ⟨z1, _⟩ | ⟨z1, z2⟩
    · exact absurd z1 ngt
    · exact .inr ⟨lessR_trans pc.l2 hp.2 (by have := hz.2; omega) e2 z1, z2⟩
theorem ref_sub {p q : Pce} {g z : Ln} (pc : PieceOk p.1 p.2.1) (hq : q ∈ refL p g) (hz : Rat z) (h : inP q.1 q.2.1 z) : inP p.1 p.2.1 z := by
  unfold refL at hq
  split at hq
  · rename_i x hx
    obtain ⟨e1, e2, e3⟩ := rootIn_some hx
    obtain ⟨s1, s2, s3⟩ := cut_sub pc (rootL_pos e1) e2 e3 hz
    simp [cutAt] at hq
    rcases hq with rfl | rfl | rfl
    · exact s1 h
    · exact s2 h
    · exact s3 h
  · simp at hq
    subst hq
    exact h
theorem ref_ch (p : Pce) (g : Ln) (pc : PieceOk p.1 p.2.1) : (lessR p.1 p.2.1 = true → Chn p.1 p.2.1 (refL p g)) ∧ (p.1 = p.2.1 → ∃ x, refL p g = [(p.1, p.1, x)]) := by
  obtain ⟨lo, hi, ls⟩ := p
  simp only at pc ⊢
  refine ⟨fun h => ?_, fun h => ?_⟩
  · unfold refL
    simp only
    split
    · rename_i x hx
      obtain ⟨e1, e2, e3⟩ := rootIn_some hx
      exact ⟨rfl, rfl, rfl, e2, rfl, rfl, e3⟩
    · exact ⟨rfl, rfl, h⟩
  · subst h
    have := rootIn_point lo g pc.l2
    unfold refL
    simp only [this]
    exact ⟨ls, rfl⟩
theorem refP_ch (i j : Nat) (p : Pce) (pc : PieceOk p.1 p.2.1) : (lessR p.1 p.2.1 = true → Chn p.1 p.2.1 (refP i j p)) ∧ (p.1 = p.2.1 → ∃ x, refP i j p = [(p.1, p.1, x)]) := by
  have one : (lessR p.1 p.2.1 = true → Chn p.1 p.2.1 [p]) ∧ (p.1 = p.2.1 → ∃ x, [p] = [(p.1, p.1, x)]) := by
    obtain ⟨lo, hi, ls⟩ := p
    exact ⟨fun h => ⟨rfl, rfl, h⟩, fun h => ⟨ls, by simp only at h; subst h; rfl⟩⟩
  unfold refP
  split
  · split
    · exact ref_ch p _ pc
    · exact one
  · exact one
theorem sgn_z {x : Int} : sgn x = 0 ↔ x = 0 := (sgn_iff x).1
theorem val_at {sts : List St} {i j : Nat} {p q : Pce} {r : Ln} (R : RowOk i j p) (hs : ∀ r, Rat r → inP p.1 p.2.1 r → p.2.2 = SL r sts) (hq : q ∈ refP i j p) (hr : Rat r) (hin : inP q.1 q.2.1 r) : PieceOk q.1 q.2.1 ∧ valP i j q = oneAt r sts i j := by
  have ls := refP_ls hq
  unfold refP at hq
  unfold valP oneAt
  rw [ls]
  cases ea : lnAt p.2.2 i with
  | none =>
    simp only [ea] at hq
    simp at hq
    subst hq
    rw [← hs r hr hin, ea]
    exact ⟨R.pc, rfl⟩
  | some a =>
    cases eb : lnAt p.2.2 j with
    | none =>
      simp only [ea, eb] at hq
      simp at hq
      subst hq
      rw [← hs r hr hin, ea, eb]
      exact ⟨R.pc, rfl⟩
    | some b =>
      simp only [ea, eb] at hq
      by_cases hk : a.1 = b.1
      · rw [if_pos hk] at hq
        have gl := gap_LB (R.b a (List.mem_of_getElem? (lnAt_get ea))) (R.b b (List.mem_of_getElem? (lnAt_get eb)))
        obtain ⟨q1, q2⟩ := refL_pc R.pc gl q hq
        rw [← hs r hr (ref_sub R.pc hq hr hin), ea, eb]
        refine ⟨q1, ?_⟩
        simp only [hk, decide_true, Bool.true_and]
        refine decide_eq_decide.mpr ?_
        obtain ⟨i1, i2⟩ := inner_in q1
        have sc := sign_const q1 q2 hr i1 hin i2
        show sgn (worthL (minusL a.2 b.2) (innerR q.1 q.2.1)) = 0 ↔ _
        rw [← sc, sgn_z, w_minus]
        omega
      · rw [if_neg hk] at hq
        simp at hq
        subst hq
        rw [← hs r hr hin, ea, eb]
        simp only [hk, decide_false, Bool.false_and]
        exact ⟨R.pc, trivial⟩
theorem refP_pc {i j : Nat} {p q : Pce} (R : RowOk i j p) (hq : q ∈ refP i j p) : PieceOk q.1 q.2.1 := by
  unfold refP at hq
  cases ea : lnAt p.2.2 i with
  | none => simp only [ea] at hq; simp at hq; subst hq; exact R.pc
  | some a =>
    cases eb : lnAt p.2.2 j with
    | none => simp only [ea, eb] at hq; simp at hq; subst hq; exact R.pc
    | some b =>
      simp only [ea, eb] at hq
      have gl := gap_LB (R.b a (List.mem_of_getElem? (lnAt_get ea))) (R.b b (List.mem_of_getElem? (lnAt_get eb)))
      by_cases hk : a.1 = b.1
      · rw [if_pos hk] at hq
        exact (refL_pc R.pc gl q hq).1
      · rw [if_neg hk] at hq
        simp at hq
        subst hq
        exact R.pc
/-- a range with something in it -/
def shp (g : Rg) : Prop := lessR g.1 g.2.2.1 = true ∨ (g.1 = g.2.2.1 ∧ g.2.1 = true ∧ g.2.2.2 = true)
section
variable {α : Type} [DecidableEq α]
theorem sh_step {found : List (Rg × α)} {x : Ln} {t : Bool} {p : Pce × α} (h : FOk (joinS found p) x t) (hs : ∀ y ∈ found, shp y.1) : ∀ y ∈ joinS found p, shp y.1 := by
  obtain ⟨⟨init, g, u, e, g1, g2, g3, _⟩, _, _⟩ := h
  have hi : ∀ y ∈ init, y ∈ found := by
    unfold joinS at e
    split at e
    · split at e
      · have := (List.append_inj' e rfl).1
        rw [← this]
        exact fun y hy => (List.dropLast_sublist _).subset hy
      · have := (List.append_inj' e rfl).1
        rw [← this]
        exact fun y hy => hy
    · have := (List.append_inj' (s₁ := []) (show [] ++ [_] = init ++ [(g, u)] from e) rfl).1
      rw [← this]
      intro y hy
      cases hy
  intro y hy
  rw [e] at hy
  rcases List.mem_append.mp hy with hy | hy
  · exact hs y (hi y hy)
  · simp at hy
    subst hy
    unfold shp
    rw [g1, g2]
    exact g3
theorem sh_chain (val : Pce → α) : ∀ (ps : List Pce) (lo hi : Ln) (found : List (Rg × α)), Chn lo hi ps → (∀ p ∈ ps, PieceOk p.1 p.2.1) → FOk found lo true → 0 < lo.1 → (∀ y ∈ found, shp y.1) →
    ∀ y ∈ joinF found (ps.map fun p => (p, val p)), shp y.1
  | [], lo, hi, found, h, _, _, _, _ => h.elim
  | [p], lo, hi, found, h, hp, hF, hx, hs => by
    obtain ⟨a, b, c⟩ := h
    have s1 := f_step (v := val p) hF (hp p (.head _)) a hx (.inr ⟨by rw [a, b]; exact c, rfl⟩)
    exact sh_step s1.1 hs
  | p :: q :: rest, lo, hi, found, h, hp, hF, hx, hs => by
    obtain ⟨a, b, c, d, e⟩ := h
    have s1 := f_step (v := val p) hF (hp p (.head _)) a hx (.inr ⟨by rw [a, b]; exact d, rfl⟩)
    have t1 := sh_step s1.1 hs
    rw [b] at s1
    have hq := hp q (.tail _ (.head _))
    have q1 : 0 < q.1.1 := by have := hq.h1; rw [c] at this; exact this
    have s2 := f_step (v := val q) s1.1 hq rfl q1 (.inl ⟨c.symm, rfl⟩)
    have t2 := sh_step s2.1 t1
    rw [c] at s2
    exact sh_chain val rest q.1 hi _ e (fun z hz => hp z (.tail _ (.tail _ hz))) s2.1 q1 t2
theorem sh_all (val : Pce → α) (ps : List Pce) (h : Chn LOW HIG ps) (hp : ∀ p ∈ ps, PieceOk p.1 p.2.1) : ∀ y ∈ joinF [] (ps.map fun p => (p, val p)), shp y.1 := by
  have start : ∀ p : Pce, p.1 = LOW → lessR LOW p.2.1 = true → PieceOk p.1 p.2.1 → FOk (joinS [] (p, val p)) p.2.1 false := by
    intro p a hl hp
    have js : joinS [] (p, val p) = [(rangeOf p, val p)] := rfl
    rw [js]
    have ne : ¬ p.1 = p.2.1 := by rw [a]; exact less_ne hl
    exact ⟨⟨[], _, _, rfl, rfl, by show decide _ = false; simpa using ne, .inl (by show lessR p.1 p.2.1 = true; rw [a]; exact hl), hp.l1, hp.l2⟩, trivial, ⟨_, _, [], rfl, a, by show decide _ = false; simpa using ne⟩⟩
  have nil : ∀ y ∈ ([] : List (Rg × α)), shp y.1 := by simp
  match ps, h, hp with
  | [p], h, hp =>
    obtain ⟨a, b, c⟩ := h
    have s1 := start p a (by rw [b]; exact c) (hp p (.head _))
    exact sh_step s1 nil
  | p :: q :: rest, h, hp =>
    obtain ⟨a, b, c, d, e⟩ := h
    have s1 := start p a (by rw [b]; exact d) (hp p (.head _))
    have t1 := sh_step s1 nil
    rw [b] at s1
    have hq := hp q (.tail _ (.head _))
    have q1 : 0 < q.1.1 := by have := hq.h1; rw [c] at this; exact this
    have s2 := f_step (v := val q) s1 hq rfl q1 (.inl ⟨c.symm, rfl⟩)
    have t2 := sh_step s2.1 t1
    rw [c] at s2
    exact sh_chain val rest q.1 HIG _ e (fun z hz => hp z (.tail _ (.tail _ hz))) s2.1 q1 t2
end
/-- ranges lie apart -/
def apart (a b : Rg) : Prop := lessR a.2.2.1 b.1 = true ∨ (a.2.2.1 = b.1 ∧ a.2.2.2 = false ∧ b.2.1 = false)
def Aps : List Rg → Prop
  | [] => True
  | [_] => True
  | a :: b :: r => apart a b ∧ Aps (b :: r)
theorem aps_cons {a : Rg} {l : List Rg} (h : ∀ b, l.head? = some b → apart a b) (hl : Aps l) : Aps (a :: l) := by
  cases l with
  | nil => trivial
  | cons b r => exact ⟨h b rfl, hl⟩
def kept (R : List (Rg × Bool)) : List Rg := (R.filter fun x => x.2).map (·.1)
theorem kept_aps : ∀ (R : List (Rg × Bool)), Con R → (∀ y ∈ R, shp y.1) → Aps (kept R)
  | [], _, _ => trivial
  | [(g, b)], _, _ => by cases b <;> trivial
  | (g, false) :: y :: r, hc, hs => kept_aps (y :: r) hc.2 fun z hz => hs z (.tail _ hz)
  | [(g, true), (m, false)], _, _ => trivial
  | (g, true) :: (m, true) :: r, hc, _ => absurd rfl hc.1.2.2
  | (g, true) :: (m, false) :: (k, false) :: r, hc, _ => absurd rfl hc.2.1.2.2
  | (g, true) :: (m, false) :: (k, true) :: r, hc, hs => by
    have ih := kept_aps ((k, true) :: r) hc.2.2 fun z hz => hs z (.tail _ (.tail _ hz))
    obtain ⟨l1, l2, _⟩ := hc.1
    obtain ⟨l3, l4, _⟩ := hc.2.1
    have sm := hs (m, false) (.tail _ (.head _))
    simp only at l1 l2 l3 l4 sm
    refine aps_cons (a := g) (l := kept ((k, true) :: r)) (fun b hb => ?_) ih
    have : b = k := by unfold kept at hb; simp at hb; exact hb.symm
    subst this
    rcases sm with s | ⟨s1, s2, s3⟩
    · left; rw [l1, ← l3]; exact s
    · right
      refine ⟨by rw [l1, s1, l3], ?_, ?_⟩
      · rw [s2] at l2; cases h : g.2.2.2 with
        | false => rfl
        | true => exact absurd h l2
      · rw [s3] at l4; cases h : b.2.1 with
        | false => rfl
        | true => exact absurd h.symm l4
theorem kept_hits (r : Ln) : ∀ R : List (Rg × Bool), ((kept R).filter fun g => inRg g r).length = ((hits R r).filter id).length
  | [] => rfl
  | (g, b) :: R => by
    have ih := kept_hits r R
    unfold kept hits at *
    cases b <;> cases h : inRg g r <;> simp [h] at ih ⊢ <;> exact ih
theorem same_ok {sts : List St} {ks : List Kd} {i j : Nat} (hk : kindsP E0 sts = some ks) (hl : sts.length ≤ 6) (hi : i < sts.length + 4) (hj : j < sts.length + 4) :
    Aps (foundL sts i j) ∧ (∀ g ∈ foundL sts i j, shp g ∧ endOk g.1 ∧ endOk g.2.2.1) ∧ (foundL sts i j).length ≤ 705891 ∧ ∀ r, Rat r → red r → ((foundL sts i j).filter fun g => inRg g r).length = if oneAt r sts i j = true then 1 else 0 := by
  have C := course_inv hk hl
  obtain ⟨c1, c2⟩ := course_row hk hl hi hj
  have rl := refs_len (i := i) (j := j) hk hl
  have ch : Chn LOW HIG (refsL sts i j) := chn_flat C.ch fun p hp => refP_ch i j p (C.pc p hp).1
  have pcs : ∀ q ∈ refsL sts i j, PieceOk q.1 q.2.1 := fun q hq => by
    obtain ⟨p, hp, hq⟩ := List.mem_flatMap.mp hq
    exact refP_pc (c2 p hp) hq
  have F := f_all (valP i j) (refsL sts i j) ch pcs
  have S := sh_all (valP i j) (refsL sts i j) ch pcs
  have E := join_ends endOk ((refsL sts i j).map (rowB i j)) [] (fun p hp => by
    obtain ⟨q, hq, rfl⟩ := List.mem_map.mp hp
    obtain ⟨a1, a2, a3, a4, a5, a6, a7, a8, _, a10, a11⟩ := pcs q hq
    have mp : 0 ≤ M0 := by decide
    exact ⟨⟨⟨by show -M0 ≤ q.1.1; omega, a5, by show -M0 ≤ q.1.2; omega, a6⟩, a10⟩, ⟨⟨by show -M0 ≤ q.2.1.1; omega, a7, by show -M0 ≤ q.2.1.2; omega, a8⟩, a11⟩⟩) (by simp)
  have jl := joinF_len ((refsL sts i j).map (rowB i j)) []
  refine ⟨kept_aps _ F.1.con S, fun g hg => ?_, ?_, fun r hr gr => ?_⟩
  · obtain ⟨y, hy, rfl⟩ := List.mem_map.mp hg
    have hy := (List.mem_filter.mp hy).1
    exact ⟨S y hy, E y hy⟩
  · have := List.length_filter_le (fun x : Rg × Bool => x.2) (sameL sts i j)
    unfold foundL
    simp only [List.length_map]
    unfold sameL at *
    simp at jl
    omega
  · have h1 := F.2 r hr gr
    obtain ⟨q, hq, hin, h2⟩ := (one_hit (valP i j) (refsL sts i j) LOW HIG r ch pcs hr gr (by decide) (by decide)).1 (by rw [lessR_iff]; simp [LOW]; exact hr.1) (by rw [lessR_iff]; simp [HIG]; exact hr.2)
    have h3 := kept_hits r (sameL sts i j)
    have h4 : hits (sameL sts i j) r = [valP i j q] := h1.trans h2
    rw [h4] at h3
    obtain ⟨p, hp, hq'⟩ := List.mem_flatMap.mp hq
    have v := (val_at (c2 p hp) (C.pc p hp).2.2 hq' hr hin).2
    rw [v] at h3
    show ((kept (sameL sts i j)).filter fun g => inRg g r).length = _
    rw [h3]
    cases oneAt r sts i j <;> rfl
/-! exchanged -/
def negL (l : Ln) : Ln := (-l.1, -l.2)
theorem minus_neg (a b : Ln) : minusL b a = negL (minusL a b) := by unfold minusL negL; simp only; congr 1 <;> omega
theorem root_neg (l : Ln) : rootL (negL l) = rootL l := by
  unfold rootL negL
  simp only [Int.neg_mul, Int.mul_neg, Int.neg_neg, Int.natAbs_neg]
theorem refL_neg (p : Pce) (l : Ln) : refL p (negL l) = refL p l := by
  unfold refL rootIn
  rw [root_neg]
theorem worth_neg (l r : Ln) : worthL (negL l) r = - worthL l r := by
  unfold worthL negL
  simp only [Int.neg_mul]
  omega
theorem refP_comm (i j : Nat) (p : Pce) : refP j i p = refP i j p := by
  unfold refP
  cases lnAt p.2.2 i with
  | none => cases lnAt p.2.2 j <;> rfl
  | some a =>
    cases lnAt p.2.2 j with
    | none => rfl
    | some b =>
      simp only
      by_cases h : a.1 = b.1
      · rw [if_pos h, if_pos h.symm, minus_neg a.2 b.2, refL_neg]
      · rw [if_neg h, if_neg (fun e => h e.symm)]
theorem valP_comm (i j : Nat) (p : Pce) : valP j i p = valP i j p := by
  unfold valP
  cases lnAt p.2.2 i with
  | none => cases lnAt p.2.2 j <;> rfl
  | some a =>
    cases lnAt p.2.2 j with
    | none => rfl
    | some b =>
      simp only
      have e1 : decide (b.1 = a.1) = decide (a.1 = b.1) := decide_eq_decide.mpr ⟨fun h => h.symm, fun h => h.symm⟩
      have e2 : decide (signIn p.1 p.2.1 (minusL b.2 a.2) = 0) = decide (signIn p.1 p.2.1 (minusL a.2 b.2) = 0) := decide_eq_decide.mpr (by
        unfold signIn
        rw [minus_neg a.2 b.2, sgn_z, sgn_z, worth_neg]
        omega)
      rw [e1, e2]
theorem found_comm (sts : List St) (i j : Nat) : foundL sts j i = foundL sts i j := by
  have e1 : refP j i = refP i j := funext fun p => refP_comm i j p
  have e2 : rowB j i = rowB i j := funext fun p => by unfold rowB; rw [valP_comm]
  unfold foundL sameL refsL
  rw [e1, e2]
end Lk

set_option Elab.async false
set_option linter.all false
set_option maxRecDepth 100000
set_option maxHeartbeats 4000000
/-! QV: the law's words about lines that are one, run. -/
namespace Lk
open PySem Fo
theorem pv_W (l : Wl) : PV 1 2 (encW l) := pvx (N := 0) (by simp) fun x hx => by
  simp at hx
  rcases hx with rfl | rfl
  · cases l.1 <;> exact pv_str (by decide +kernel) _ _
  · exact pv_int _ _ _
theorem eqv_W (a b : Wl) : PyData.eqv (encW a) (encW b) = (decide (a.1 = b.1) && decide (a.2 = b.2)) := by
  have e : PyData.eqv (encW a) (encW b) = (PyData.eqv a.1.d b.1.d && (PyData.eqv (.int a.2) (.int b.2) && true)) := by
    unfold encW PyData.eqv PyData.eqvAll PyData.eqvAll PyData.eqvAll; rfl
  rw [e, eqK, eqv_ii, Bool.and_true]
theorem eqv_Wn (a : Wl) : PyData.eqv (encW a) .none = false := by unfold encW PyData.eqv; rfl
theorem eqOk_W (a b : Wl) : eqOk (encW a) (encW b) = true := eqOk_pv (pv_W a) (pv_W b) (by omega) (by omega)
theorem eqOk_Wn (a : Wl) : eqOk (encW a) .none = true := eqOk_pv (pv_W a) (show PV 0 0 .none by unfold PV; trivial) (by omega) (by omega)
theorem r_are_one (n : Nat) (r : Ln) (sts : List St) (i j : Nat) (hP : Plan sts) (hl : sts.length ≤ 6) (hi : i < sts.length + 4) (hj : j < sts.length + 4) :
    callF Q (n + 5) 94 [.tuple (sts.map St.enc), encR r, .int i, .int j] = .ok (.bool (oneAt r sts i j), []) := by
  have g1 := r_law_lines n r sts hP hl
  have sl := SL_len r sts
  rw [callQ (F := F94) rfl rfl]
  obtain ⟨oa, ga⟩ : ∃ o, (SL r sts)[i]? = some o := ⟨_, List.getElem?_eq_getElem (by omega)⟩
  obtain ⟨ob, gb⟩ : ∃ o, (SL r sts)[j]? = some o := ⟨_, List.getElem?_eq_getElem (by omega)⟩
  have la := lnAt_some ga
  have lb := lnAt_some gb
  unfold oneAt
  rw [la, lb]
  simp only [F94]
  cases oa with
  | none => simp [Fo.start, ownAt_eq, bindT_name, parS_cons, ownS_list, ownS_dict, isLst, Tg.slots, wipeR, backR, occ, isOwn, pkI_var, evE_lc, g1, ga, gb, isN_E]
  | some a =>
    cases ob with
    | none =>
      have en : encE r none = .none := rfl
      simp [Fo.start, ownAt_eq, bindT_name, parS_cons, ownS_list, ownS_dict, isLst, Tg.slots, wipeR, backR, occ, isOwn, pkI_var, evE_lc, g1, ga, gb, isN_E, encE_some, en, eqv_Wn, eqOk_Wn, isN_W]
    | some b => simp [Fo.start, ownAt_eq, bindT_name, parS_cons, ownS_list, ownS_dict, isLst, Tg.slots, wipeR, backR, occ, isOwn, pkI_var, evE_lc, g1, ga, gb, isN_E, encE_some, eqv_W, eqOk_W, isN_W, evL]
theorem r_meeting (n : Nat) (sts : List St) (i j : Nat) (hP : Plan sts) (hl : sts.length ≤ 6) (hi : i < sts.length + 4) (hj : j < sts.length + 4) :
    ∃ rs : List Ln, callF Q (n + 6) 95 [.tuple (sts.map St.enc), .int i, .int j] = .ok (.list (rs.map encR), []) ∧ (∀ r ∈ rs, GoodR 30 r) ∧ rs.length ≤ 1000000 := by
  obtain ⟨rs, e1, h1, h2⟩ := r_simple (n + 3) 30 (by decide) (by decide)
  have e1 : callF Q (n + 5) 21 [.int 30] = .ok (.list (rs.map encR), []) := e1
  refine ⟨rs.filter fun r => oneAt r sts i j, ?_, fun r hr => h1 r (List.mem_filter.mp hr).1, Nat.le_trans (List.length_filter_le _ _) h2⟩
  rw [callQ (F := F95) rfl rfl]
  have l1 : rs.length ≤ 16777216 := by omega
  simp only [F95]
  simp [Fo.start, ownAt_eq, bindT_name, parS_cons, ownS_list, ownS_dict, isLst, Tg.slots, wipeR, backR, occ, isOwn, pkI_var, evE_lc, e1, kLc_ok, l1]
  rw [lcGo_map encR encR (fun r => oneAt r sts i j) rs ?c1]
  case c1 =>
    intro r hr
    have g := r_are_one n r sts i j hP hl hi hj
    refine ⟨_, bindT_name _ _ _ (by simp), ?_, fun _ => by simp [Fo.start, ownAt_eq, bindT_name, parS_cons, ownS_list, ownS_dict, isLst, Tg.slots, wipeR, backR, occ, isOwn, pkI_var, evE_lc], by simp [wipeR]⟩
    simp [tstR, isZero, Fo.start, ownAt_eq, bindT_name, parS_cons, ownS_list, ownS_dict, isLst, Tg.slots, wipeR, backR, occ, isOwn, pkI_var, evE_lc, g, boolR]
  simp [Fo.start, ownAt_eq, bindT_name, parS_cons, ownS_list, ownS_dict, isLst, Tg.slots, wipeR, backR, occ, isOwn, pkI_var, evE_lc]
theorem aps_at : ∀ {R : List Rg} {i : Nat} {a b : Rg}, Aps R → R[i]? = some a → R[i + 1]? = some b → apart a b
  | [], i, a, b, _, h, _ => by simp at h
  | [x], i, a, b, _, _, h => by simp at h
  | x :: y :: r, 0, a, b, h, h1, h2 => by
    simp at h1 h2
    subst h1 h2
    exact h.1
  | x :: y :: r, i + 1, a, b, h, h1, h2 => aps_at (R := y :: r) h.2 (by simpa using h1) (by simpa using h2)
def IAp1 (R rest : List Rg) (ρ : Rho) : Prop := (∀ g ∈ rest, g ∈ R) ∧ ∃ s1 s2 s3 s4 s5 s6 s7, ρ = [.val (.list (R.map encRg)), s1, s2, s3, s4, s5, s6, s7]
def IAp2 (R : List Rg) (ρ : Rho) : Prop := ∃ s1 s2 s3 s4 s5 s6 s7, ρ = [.val (.list (R.map encRg)), s1, s2, s3, s4, s5, s6, s7]
theorem r_apart (n : Nat) (R : List Rg) (hl : R.length ≤ 1000000) (hA : Aps R) (hs : ∀ g ∈ R, shp g ∧ endOk g.1 ∧ endOk g.2.2.1) : callF Q (n + 2) 93 [.list (R.map encRg)] = .ok (.bool true, []) := by
  refine ok_of ?_
  rw [callQ (F := F93) rfl rfl]
  refine wp_fin ?_
  have eg : ∀ x : Rg, encRg x = .tuple [encR x.1, .bool x.2.1, encR x.2.2.1, .bool x.2.2.2] := fun _ => rfl
  simp only [F93]
  simp [Fo.start, ownAt_eq, bindT_name, parS_cons, ownS_list, ownS_dict, isLst, Tg.slots, wipeR, backR, occ, isOwn, pkI_var, evE_lc]
  refine wp_seq (wp_goM (fun rest ρ => IAp1 R rest ρ) ?_ ?_ ?_)
  · rintro g rest _ ⟨hm, s1, s2, s3, s4, s5, s6, s7, rfl⟩
    obtain ⟨sg, o1, o2⟩ := hs g (hm g (.head _))
    have e1 := r_law_less n g.2.2.1 g.1 (.inl o2.1)
    have nx : ∀ s1 s2 s3 s4 s5 s6 s7, IAp1 R rest [.val (.list (R.map encRg)), s1, s2, s3, s4, s5, s6, s7] := fun s1 s2 s3 s4 s5 s6 s7 => ⟨fun q hq => hm q (.tail _ hq), _, _, _, _, _, _, _, rfl⟩
    rcases sg with s | ⟨q1, q2, q3⟩
    · have n1 := Bool.not_eq_true _ |>.mp (less_asym s)
      have n2 := less_ne s
      rw [n1] at e1
      simp [Fo.start, ownAt_eq, bindT_name, parS_cons, ownS_list, ownS_dict, isLst, Tg.slots, wipeR, backR, occ, isOwn, pkI_var, evE_lc, eg, e1, eqv_R, eqOk_R, n2]
      exact nx _ _ _ _ _ _ _
    · have n1 := lessR_irr g.1
      rw [← q1, n1] at e1
      simp [Fo.start, ownAt_eq, bindT_name, parS_cons, ownS_list, ownS_dict, isLst, Tg.slots, wipeR, backR, occ, isOwn, pkI_var, evE_lc, eg, ← q1, e1, eqv_R, eqOk_R, q2, q3]
      exact nx _ _ _ _ _ _ _
  · rintro _ ⟨_, s1, s2, s3, s4, s5, s6, s7, rfl⟩
    have hr := kIt_r1 ((R.length : Int) - 1) (by omega)
    have eR : ((R.length : Int) - 1).toNat = R.length - 1 := by omega
    simp [Fo.start, ownAt_eq, bindT_name, parS_cons, ownS_list, ownS_dict, isLst, Tg.slots, wipeR, backR, occ, isOwn, pkI_var, evE_lc, hr, eR]
    refine wp_seq (wp_goR (fun i ρ => IAp2 R ρ) ?_ ?_ ?_)
    · rintro i _ hi ⟨s1, s2, s3, s4, s5, s6, s7, rfl⟩
      have i1 : i < R.length := by omega
      have i2 : i + 1 < R.length := by omega
      have ga : R[i]? = some R[i] := List.getElem?_eq_getElem i1
      have gb : R[i + 1]? = some R[i + 1] := List.getElem?_eq_getElem i2
      have ap := aps_at hA ga gb
      have ha := hs _ (List.getElem_mem i1)
      generalize R[i] = A at *
      generalize R[i + 1] = B at *
      have p4 : (0 : Int) ≤ (i : Int) + 1 := by omega
      have n4 : ((i : Int) + 1).toNat = i + 1 := by omega
      have e1 := r_law_less n B.1 A.2.2.1 (.inr ha.2.2.1)
      have nx : ∀ s1 s2 s3 s4 s5 s6 s7, IAp2 R [.val (.list (R.map encRg)), s1, s2, s3, s4, s5, s6, s7] := fun s1 s2 s3 s4 s5 s6 s7 => ⟨_, _, _, _, _, _, _, rfl⟩
      rcases ap with s | ⟨q1, q2, q3⟩
      · have n1 := Bool.not_eq_true _ |>.mp (less_asym s)
        have n2 := less_ne s
        rw [n1] at e1
        simp [Fo.start, ownAt_eq, bindT_name, parS_cons, ownS_list, ownS_dict, isLst, Tg.slots, wipeR, backR, occ, isOwn, pkI_var, evE_lc, ga, gb, eg, p4, n4, e1, eqv_R, eqOk_R, n2]
        exact nx _ _ _ _ _ _ _
      · have n1 := lessR_irr B.1
        rw [q1, n1] at e1
        simp [Fo.start, ownAt_eq, bindT_name, parS_cons, ownS_list, ownS_dict, isLst, Tg.slots, wipeR, backR, occ, isOwn, pkI_var, evE_lc, ga, gb, eg, p4, n4, q1, e1, eqv_R, eqOk_R, q2, q3]
        exact nx _ _ _ _ _ _ _
    · rintro _ ⟨s1, s2, s3, s4, s5, s6, s7, rfl⟩
      simp [Fo.start, ownAt_eq, bindT_name, parS_cons, ownS_list, ownS_dict, isLst, Tg.slots, wipeR, backR, occ, isOwn, pkI_var, evE_lc]
    · exact ⟨_, _, _, _, _, _, _, rfl⟩
  · exact ⟨fun g hg => hg, _, _, _, _, _, _, _, rfl⟩
end Lk

set_option Elab.async false
set_option linter.all false
set_option maxRecDepth 100000
set_option maxHeartbeats 4000000
/-! Q05law: the law k05. -/
namespace Lk
open PySem Fo
theorem con_tail {α : Type} [DecidableEq α] {a : Rg × α} {r : List (Rg × α)} (h : Con (a :: r)) : Con r := by
  cases r with
  | nil => trivial
  | cons b t => exact h.2
theorem kept_len : ∀ (R : List (Rg × Bool)), Con R → 2 * (kept R).length ≤ R.length + 1
  | [], _ => by simp [kept]
  | (g, false) :: r, hc => by
    have ih := kept_len r (con_tail hc)
    have e : kept ((g, false) :: r) = kept r := by simp [kept]
    rw [e]
    simp only [List.length_cons]
    omega
  | [(g, true)], _ => by simp [kept]
  | (g, true) :: (m, true) :: r, hc => absurd rfl hc.1.2.2
  | (g, true) :: (m, false) :: r, hc => by
    have ih := kept_len r (con_tail (con_tail hc))
    have e : kept ((g, true) :: (m, false) :: r) = g :: kept r := by simp [kept]
    rw [e]
    simp only [List.length_cons]
    omega
theorem found_len {sts : List St} {ks : List Kd} {i j : Nat} (hk : kindsP E0 sts = some ks) (hl : sts.length ≤ 6) (hi : i < sts.length + 4) (hj : j < sts.length + 4) : (foundL sts i j).length ≤ 400000 := by
  have C := course_inv hk hl
  obtain ⟨c1, c2⟩ := course_row hk hl hi hj
  have rl := refs_len (i := i) (j := j) hk hl
  have ch : Chn LOW HIG (refsL sts i j) := chn_flat C.ch fun p hp => refP_ch i j p (C.pc p hp).1
  have pcs : ∀ q ∈ refsL sts i j, PieceOk q.1 q.2.1 := fun q hq => by
    obtain ⟨p, hp, hq⟩ := List.mem_flatMap.mp hq
    exact refP_pc (c2 p hp) hq
  have F := f_all (valP i j) (refsL sts i j) ch pcs
  have kl := kept_len (sameL sts i j) F.1.con
  have jl := joinF_len ((refsL sts i j).map (rowB i j)) []
  have e : (sameL sts i j).length ≤ 705891 := by
    unfold sameL
    simp at jl
    omega
  show (kept (sameL sts i j)).length ≤ _
  omega
theorem q_lam24 : Q.lam 24 = errG words := rfl
theorem err_3 : errG words (.exc 3) = some (.str "number value") := rfl
def J1 (sc : PyData) (ρ : Rho) : Prop := ∃ s1 s2 s3 s4 s5 s6 s7 s8 s9 s10 s11 s12 s13, ρ = [.val sc, s1, s2, s3, s4, s5, s6, s7, s8, s9, s10, s11, s12, s13]
def J2 (sc : PyData) (sts : List St) (ρ : Rho) : Prop := ∃ s1 s4 s5 s6 s7 s8 s9 s10 s11 s12 s13, ∃ ms : List Int, ρ = [.val sc, s1, .val (.tuple (sts.map St.enc)), .own (.list (ms.map .int)), s4, s5, s6, s7, s8, s9, s10, s11, s12, s13]
def J3 (sc : PyData) (sts : List St) (i j : Nat) (xs : List Ln) (ρ : Rho) : Prop := (∃ s1 s4 s5 s7 s8 s9 s12 s13, ∃ ms : List Int, ρ = [.val sc, s1, .val (.tuple (sts.map St.enc)), .own (.list (ms.map .int)), s4, s5, .val (.list ((foundL sts i j).map encRg)), s7, s8, s9, .val (.int i), .val (.int j), s12, s13]) ∧ ∀ x ∈ xs, Rat x ∧ red x
def J4 (sc : PyData) (sts : List St) (xs : List PyData) (ρ : Rho) : Prop := J2 sc sts ρ ∧ ∀ x ∈ xs, plainD x = true ∧ isWhole x 0 ((sts.length : Int) + 3) = false
def OLaw (p : Fl × Rho) : Prop := p.1 = .ret (.bool true)
theorem pv_found (R : List Rg) (h : R.length ≤ 16777216) : PV 5 16777216 (.list (R.map encRg)) := pvl (N := 4) (by simpa using h) fun z hz => by
  obtain ⟨g, _, rfl⟩ := List.mem_map.mp hz
  exact pv_rg g 2 _ (by omega)
theorem r_law (ns : List Int) : callF Q 70 96 [.list (ns.map .int)] = .ok (.bool true, []) := by
  refine ok_of ?_
  rw [callQ (n := 69) (F := F96) rfl rfl]
  refine wp_fin ?_
  refine wp_mono (P := OLaw) ?_ (fun p hp => ⟨_, hp, rfl⟩)
  have hr6 := kIt_r1 6 (by omega)
  simp only [F96]
  simp [Fo.start, ownAt_eq, bindT_name, parS_cons, ownS_list, ownS_dict, isLst, Tg.slots, wipeR, backR, occ, isOwn, pkI_var, evE_lc, hr6]
  refine wp_seq (wp_goR (fun i ρ => J1 (.list (ns.map .int)) ρ) ?_ ?_ ?_)
  · rintro k _ hk ⟨s1, s2, s3, s4, s5, s6, s7, s8, s9, s10, s11, s12, s13, rfl⟩
    obtain ⟨ms, e1⟩ := r_bag 66 ns k (by omega)
    obtain ⟨sts, m1, e2, hP, hl⟩ := r_plan 65 ms 6 (by omega)
    have hl6 : sts.length ≤ 6 := by omega
    have e2 : callF Q 69 20 [.list (ms.map .int), .int 6] = .ok (.tuple (sts.map St.enc), m1.map .int) := e2
    have hr4 := kIt_r1 4 (by omega)
    simp [Fo.start, ownAt_eq, bindT_name, parS_cons, ownS_list, ownS_dict, isLst, Tg.slots, wipeR, backR, occ, isOwn, pkI_var, evE_lc, e1, e2, hr4]
    refine wp_seq (wp_goR (fun i ρ => J2 (.list (ns.map .int)) sts ρ) ?_ ?_ ?_)
    · rintro t _ ht ⟨s1, s4, s5, s6, s7, s8, s9, s10, s11, s12, s13, ms, rfl⟩
      obtain ⟨a, m2, e3, ha⟩ := r_take 68 ms ((sts.length : Int) + 4) (by omega)
      obtain ⟨b, m3, e4, hb⟩ := r_take 68 m2 ((sts.length : Int) + 4) (by omega)
      have e3 : callF Q 69 14 [.list (ms.map .int), .int ((sts.length : Int) + 4)] = .ok (.int a, m2.map .int) := e3
      have e4 : callF Q 69 14 [.list (m2.map .int), .int ((sts.length : Int) + 4)] = .ok (.int b, m3.map .int) := e4
      have ha : a < sts.length + 4 := by omega
      have hb : b < sts.length + 4 := by omega
      have e5 : callF Q 69 92 [.tuple (sts.map St.enc), .int a, .int b] = .ok (.list ((foundL sts a b).map encRg), []) := r_same_line 54 sts a b hP hl6 ha hb
      have e6 : callF Q 69 92 [.tuple (sts.map St.enc), .int b, .int a] = .ok (.list ((foundL sts a b).map encRg), []) := by
        have := r_same_line 54 sts b a hP hl6 hb ha
        rw [found_comm] at this
        exact this
      obtain ⟨ks, hks⟩ := id hP
      obtain ⟨fA, fS, _, fH⟩ := same_ok hks hl6 ha hb
      have fl := found_len hks hl6 ha hb
      have e7 : callF Q 69 93 [.list ((foundL sts a b).map encRg)] = .ok (.bool true, []) := r_apart 67 _ (by omega) fA fS
      have pf := pv_found (foundL sts a b) (by omega)
      have q1 := eqOk_pv pf pf (by omega) (by omega)
      have q2 := eqv_self _ (pv_lay pf).1
      have e8 := r_law_ends 68 (foundL sts a b) (by omega)
      obtain ⟨mr, e9, hmr, _⟩ := r_meeting 63 sts a b hP hl6 ha hb
      have e9 : callF Q 69 95 [.tuple (sts.map St.enc), .int a, .int b] = .ok (.list (mr.map encR), []) := e9
      obtain ⟨rs, ls, m4, e10, h1, h2, _, _⟩ := r_some 66 m3 (((foundL sts a b).map (·.1) ++ (foundL sts a b).map (·.2.2.1)) ++ mr.take 6) (fun r hr => by
        have ok : ∀ l : Ln, endOk l → ptOk l := fun l h => by
          obtain ⟨⟨_, b1, _, b2⟩, b3⟩ := h
          unfold M0 at b1 b2
          exact ⟨by omega, by omega, b3⟩
        rcases List.mem_append.mp hr with hr | hr
        · rcases List.mem_append.mp hr with hr | hr
          · obtain ⟨g, hg, rfl⟩ := List.mem_map.mp hr
            exact ok _ (fS g hg).2.1
          · obtain ⟨g, hg, rfl⟩ := List.mem_map.mp hr
            exact ok _ (fS g hg).2.2
        · obtain ⟨⟨_, c1, _, c2⟩, c3⟩ := hmr r (List.mem_of_mem_take hr)
          exact ⟨by omega, by omega, c3⟩) (by
            have := List.length_take_le 6 mr
            simp only [List.length_append, List.length_map]
            omega)
      have e8 : callF Q 69 80 [.list ((foundL sts a b).map encRg)] = _ := e8
      have e10 : callF Q 69 22 [.list (m3.map .int), .list ((((foundL sts a b).map (·.1) ++ (foundL sts a b).map (·.2.2.1)) ++ mr.take 6).map encR)] = _ := e10
      have el : (((foundL sts a b).map (·.1) ++ (foundL sts a b).map (·.2.2.1)).map encR).length ≤ 1000000 := by
        simp only [List.length_append, List.length_map]
        omega
      rw [List.map_append (l₂ := mr.take 6), List.map_take] at e10
      generalize ((foundL sts a b).map (·.1) ++ (foundL sts a b).map (·.2.2.1)).map encR = EA at e8 e10 el
      generalize mr.map encR = MR at e9 e10
      have lt6 := List.length_take_le 6 MR
      have l6 : EA.length + (MR.take 6).length ≤ 16777216 := by omega
      have l7 : EA.length + min 6 MR.length ≤ 16777216 := by omega
      generalize hF : (foundL sts a b).map encRg = FE at e5 e6 e7 q1 q2 e8
      generalize hZ : (rs ++ ls).map encR = ZE at e10
      simp [Fo.start, ownAt_eq, bindT_name, parS_cons, ownS_list, ownS_dict, isLst, Tg.slots, wipeR, backR, occ, isOwn, pkI_var, evE_lc, e3, e4, e5, e6, e7, q1, q2, e8, e9, l6, l7, e10]
      rw [← hF, ← hZ]
      refine wp_seq (wp_goM (fun xs ρ => J3 (.list (ns.map .int)) sts a b xs ρ) ?_ ?_ ?_)
      · rintro r xs _ ⟨⟨s1, s4, s5, s7, s8, s9, s12, s13, ms, rfl⟩, hx⟩
        obtain ⟨hr, gr⟩ := hx r (.head _)
        have g1 : callF Q 69 94 [.tuple (sts.map St.enc), encR r, .int a, .int b] = .ok (.bool (oneAt r sts a b), []) := r_are_one 64 r sts a b hP hl6 ha hb
        have fh := fH r hr gr
        have fl2 : (foundL sts a b).length ≤ 16777216 := by omega
        simp [Fo.start, ownAt_eq, bindT_name, parS_cons, ownS_list, ownS_dict, isLst, Tg.slots, wipeR, backR, occ, isOwn, pkI_var, evE_lc, kLc_ok, fl2]
        rw [lcGo_map encRg encRg (fun g => inRg g r) _ ?c1]
        case c1 =>
          intro g hg
          have g2 := r_law_in 67 g r (fS g hg).2.1.1 (fS g hg).2.2.1
          refine ⟨_, bindT_name _ _ _ (by simp), ?_, fun _ => by simp [Fo.start, ownAt_eq, bindT_name, parS_cons, ownS_list, ownS_dict, isLst, Tg.slots, wipeR, backR, occ, isOwn, pkI_var, evE_lc], by simp [wipeR]⟩
          simp [tstR, isZero, Fo.start, ownAt_eq, bindT_name, parS_cons, ownS_list, ownS_dict, isLst, Tg.slots, wipeR, backR, occ, isOwn, pkI_var, evE_lc, g2, boolR]
        have nx : ∀ s1 s4 s5 s7 s8 s9 s12 s13, J3 (.list (ns.map .int)) sts a b xs [.val (.list (ns.map .int)), s1, .val (.tuple (sts.map St.enc)), .own (.list (ms.map .int)), s4, s5, .val (.list ((foundL sts a b).map encRg)), s7, s8, s9, .val (.int a), .val (.int b), s12, s13] :=
          fun s1 s4 s5 s7 s8 s9 s12 s13 => ⟨⟨_, _, _, _, _, _, _, _, ms, rfl⟩, fun y hy => hx y (.tail _ hy)⟩
        cases ho : oneAt r sts a b with
        | true =>
          rw [ho] at fh g1
          rw [if_pos rfl] at fh
          simp [Fo.start, ownAt_eq, bindT_name, parS_cons, ownS_list, ownS_dict, isLst, Tg.slots, wipeR, backR, occ, isOwn, pkI_var, evE_lc, fh, g1]
          exact nx _ _ _ _ _ _ _ _
        | false =>
          rw [ho] at fh g1
          rw [if_neg (by decide)] at fh
          simp [Fo.start, ownAt_eq, bindT_name, parS_cons, ownS_list, ownS_dict, isLst, Tg.slots, wipeR, backR, occ, isOwn, pkI_var, evE_lc, fh, g1]
          exact nx _ _ _ _ _ _ _ _
      · rintro _ ⟨⟨s1, s4, s5, s7, s8, s9, s12, s13, ms, rfl⟩, hx⟩
        simp [Fo.start, ownAt_eq, bindT_name, parS_cons, ownS_list, ownS_dict, isLst, Tg.slots, wipeR, backR, occ, isOwn, pkI_var, evE_lc]
        exact ⟨_, _, _, _, _, _, _, _, _, _, _, ms, rfl⟩
      · refine ⟨⟨_, _, _, _, _, _, _, _, m4, rfl⟩, fun x hx => ?_⟩
        rcases List.mem_append.mp hx with hx | hx
        · obtain ⟨⟨a, _, b, _⟩, c⟩ := h1 x hx
          exact ⟨⟨a, b⟩, c⟩
        · obtain ⟨⟨a, _, b, _⟩, c⟩ := h2 x hx
          exact ⟨⟨a, b⟩, c⟩
    · rintro _ ⟨s1, s4, s5, s6, s7, s8, s9, s10, s11, s12, s13, ms, rfl⟩
      simp [Fo.start, ownAt_eq, bindT_name, parS_cons, ownS_list, ownS_dict, isLst, Tg.slots, wipeR, backR, occ, isOwn, pkI_var, evE_lc]
      refine wp_seq (wp_goL (fun xs ρ => J4 (.list (ns.map .int)) sts xs ρ) ?_ ?_ ?_)
      · rintro x xs _ ⟨⟨s1, s4, s5, s6, s7, s8, s9, s10, s11, s12, s13, ms, rfl⟩, hx⟩
        obtain ⟨x1, x2⟩ := hx x (.head _)
        have g1 : callF Q 67 92 [.tuple (sts.map St.enc), x, .none] = .exc 3 := r_same_exc 52 sts x .none hP hl6 x1 rfl (by rw [x2]; rfl)
        have g2 : callF Q 67 92 [.tuple (sts.map St.enc), .int 0, x] = .exc 3 := r_same_exc 52 sts (.int 0) x hP hl6 rfl x1 (by rw [x2]; simp)
        have no1 : ∀ s9, noOwnIn (.call 92 (.cons (.var 2) (.cons (.var 5) (.cons (.cst .none) .nil)))) [.val (.list (ns.map .int)), s1, .val (.tuple (sts.map St.enc)), .own (.list (ms.map .int)), s4, .val x, s6, s7, s8, s9, s10, s11, s12, s13] = true := fun s9 => noOwn_of fun i hi => by
          simp [occ] at hi
          rcases hi with rfl | rfl <;> rfl
        have no2 : ∀ s9, noOwnIn (.call 92 (.cons (.var 2) (.cons (.cst (.int 0)) (.cons (.var 5) .nil)))) [.val (.list (ns.map .int)), s1, .val (.tuple (sts.map St.enc)), .own (.list (ms.map .int)), s4, .val x, s6, s7, s8, s9, s10, s11, s12, s13] = true := fun s9 => noOwn_of fun i hi => by
          simp [occ] at hi
          rcases hi with rfl | rfl <;> rfl
        have w1 : eqOk (.list [.str (Str.ofString "number value"), .str (Str.ofString "number value")]) (.list (reps 2 [.str (Str.ofString "number value")])) = true := by decide +kernel
        have w2 : PyData.eqv (.list [.str (Str.ofString "number value"), .str (Str.ofString "number value")]) (.list (reps 2 [.str (Str.ofString "number value")])) = true := by decide +kernel
        simp [Fo.start, ownAt_eq, bindT_name, parS_cons, ownS_list, ownS_dict, isLst, Tg.slots, wipeR, backR, occ, isOwn, pkI_var, evE_lc, ctx_low, no1, no2, g1, g2, q_lam24, err_3, kApp3_ok, w1, w2]
        exact ⟨⟨_, _, _, _, _, _, _, _, _, _, _, ms, rfl⟩, fun y hy => hx y (.tail _ hy)⟩
      · rintro _ ⟨⟨s1, s4, s5, s6, s7, s8, s9, s10, s11, s12, s13, ms, rfl⟩, _⟩
        have g1 : callF Q 67 92 [.tuple [], .int 0, .int 4] = .exc 3 := r_same_exc 52 [] (.int 0) (.int 4) ⟨_, rfl⟩ (by simp) rfl rfl (by decide)
        have no : noOwnIn (.call 92 (.cons (.tup .nil) (.cons (.cst (.int 0)) (.cons (.cst (.int 4)) .nil)))) [.val (.list (ns.map .int)), s1, .val (.tuple (sts.map St.enc)), .own (.list (ms.map .int)), s4, s5, s6, s7, s8, s9, s10, s11, s12, s13] = true := noOwn_of fun i hi => by
          simp [occ] at hi
        simp [Fo.start, ownAt_eq, bindT_name, parS_cons, ownS_list, ownS_dict, isLst, Tg.slots, wipeR, backR, occ, isOwn, pkI_var, evE_lc, ctx_low, no, g1, q_lam24, err_3]
        exact ⟨_, _, _, _, _, _, _, _, _, _, _, _, _, rfl⟩
      · refine ⟨⟨_, _, _, _, _, _, _, _, _, _, _, ms, rfl⟩, fun x hx => ?_⟩
        simp at hx
        rcases hx with rfl | rfl | rfl | rfl
        · exact ⟨rfl, by simp [isWhole]⟩
        · exact ⟨rfl, by simp [isWhole]⟩
        · exact ⟨rfl, rfl⟩
        · exact ⟨rfl, rfl⟩
    · exact ⟨_, _, _, _, _, _, _, _, _, _, _, m1, rfl⟩
  · rintro _ ⟨s1, s2, s3, s4, s5, s6, s7, s8, s9, s10, s11, s12, s13, rfl⟩
    have pl : Plan [.thr 0 1 .P, .thr 4 3 .U, .mid 0 2] := ⟨[.U, .L, .U, .L, .P, .U, .U], by decide +kernel⟩
    have g1 := r_same_line 54 [.thr 0 1 .P, .thr 4 3 .U, .mid 0 2] 5 6 pl (by simp) (by simp) (by simp)
    have g2 := r_same_line 54 [.thr 0 1 .P, .thr 4 3 .U, .mid 0 2] 1 3 pl (by simp) (by simp) (by simp)
    have f1 : foundL [.thr 0 1 .P, .thr 4 3 .U, .mid 0 2] 5 6 = [((2, 1), true, (2, 1), true)] := by decide +kernel
    have f2 : foundL [.thr 0 1 .P, .thr 4 3 .U, .mid 0 2] 1 3 = [] := by decide +kernel
    rw [f1] at g1
    rw [f2] at g2
    simp [St.enc, Kd.d, encRg, encR] at g1 g2
    have q1 : eqOk (.list [.tuple [.tuple [.int 2, .int 1], .bool true, .tuple [.int 2, .int 1], .bool true]]) (.list [.tuple [.tuple [.int 2, .int 1], .bool true, .tuple [.int 2, .int 1], .bool true]]) = true := by decide +kernel
    have q2 : PyData.eqv (.list [.tuple [.tuple [.int 2, .int 1], .bool true, .tuple [.int 2, .int 1], .bool true]]) (.list [.tuple [.tuple [.int 2, .int 1], .bool true, .tuple [.int 2, .int 1], .bool true]]) = true := by decide +kernel
    have q3 : eqOk (.list []) (.list []) = true := by decide +kernel
    have q4 : PyData.eqv (.list []) (.list []) = true := by decide +kernel
    simp [Fo.start, ownAt_eq, bindT_name, parS_cons, ownS_list, ownS_dict, isLst, Tg.slots, wipeR, backR, occ, isOwn, pkI_var, evE_lc, g1, g2, q1, q2, q3, q4]
    rfl
  · exact ⟨_, _, _, _, _, _, _, _, _, _, _, _, _, rfl⟩
theorem hlaw : ∀ ns : List Int, ns.length ≤ 63 → ∃ zs, Fo.callF Lk.Q 70 96 [.list (ns.map .int)] = .ok (.bool true, zs) := fun ns _ => ⟨[], r_law ns⟩
end Lk

set_option Elab.async false
set_option linter.all false
set_option maxRecDepth 100000
set_option maxHeartbeats 4000000
/-! the end of law_k05_whole_lines_that_are_one (printed by print_law.py) -/
namespace Lk
open PySem L2 Fo LamX PyProof.Rows L2H
theorem all_mk {w : World} {K : PySem.W.Frag} {h : Heap} {mg : Str → Option Value} {fa : Addr} {ts : List Addr} (X : K.In h) (G : h.Ns mainGlobals mg) (hfa : mg "law" = some (.ref fa)) (TS : ∀ P ∈ ts, h.get? P = some (PySem.W.tabObj #[]))
    {f0 : Addr} {od0 an0 : Option Addr} {sl0 : Array (Option Value)} {oc0 kV0 dc0 pm0 ct0 : Value}
    {cd0 : Value}
    {f1 : Addr} {od1 an1 : Option Addr} {sl1 : Array (Option Value)} {oc1 kV1 dc1 pm1 ct1 : Value}
    {cd1 : Value}
    {f2 : Addr} {od2 an2 : Option Addr} {sl2 : Array (Option Value)} {oc2 kV2 dc2 pm2 ct2 : Value}
    {cd2 : Value}
    {f31 : Addr} {od31 an31 : Option Addr} {sl31 : Array (Option Value)} {oc31 kV31 dc31 pm31 ct31 : Value}
    {cd31 : Value}
    {f5 : Addr} {od5 an5 : Option Addr} {sl5 : Array (Option Value)} {oc5 kV5 dc5 pm5 ct5 : Value}
    {cd5 : Value}
    {f6 : Addr} {od6 an6 : Option Addr} {sl6 : Array (Option Value)} {oc6 kV6 dc6 pm6 ct6 : Value}
    {cd6 : Value}
    {f7 : Addr} {od7 an7 : Option Addr} {sl7 : Array (Option Value)} {oc7 kV7 dc7 pm7 ct7 : Value}
    {cd7 : Value}
    {f8 : Addr} {od8 an8 : Option Addr} {sl8 : Array (Option Value)} {oc8 kV8 dc8 pm8 ct8 : Value}
    {cd8 : Value}
    {f9 : Addr} {od9 an9 : Option Addr} {sl9 : Array (Option Value)} {oc9 kV9 dc9 pm9 ct9 : Value}
    {cd9 : Value}
    {f33 : Addr} {od33 an33 : Option Addr} {sl33 : Array (Option Value)} {oc33 kV33 dc33 pm33 ct33 : Value}
    {cd33 : Value}
    {f34 : Addr} {od34 an34 : Option Addr} {sl34 : Array (Option Value)} {oc34 kV34 dc34 pm34 ct34 : Value}
    {cd34 : Value}
    {f35 : Addr} {od35 an35 : Option Addr} {sl35 : Array (Option Value)} {oc35 kV35 dc35 pm35 ct35 : Value}
    {cd35 : Value}
    {f36 : Addr} {od36 an36 : Option Addr} {sl36 : Array (Option Value)} {oc36 kV36 dc36 pm36 ct36 : Value}
    {cd36 : Value}
    {f37 : Addr} {od37 an37 : Option Addr} {sl37 : Array (Option Value)} {oc37 kV37 dc37 pm37 ct37 : Value}
    {cd37 : Value}
    {f38 : Addr} {od38 an38 : Option Addr} {sl38 : Array (Option Value)} {oc38 kV38 dc38 pm38 ct38 : Value}
    {cd38 : Value}
    {f39 : Addr} {od39 an39 : Option Addr} {sl39 : Array (Option Value)} {oc39 kV39 dc39 pm39 ct39 : Value}
    {cd39 : Value}
    {f40 : Addr} {od40 an40 : Option Addr} {sl40 : Array (Option Value)} {oc40 kV40 dc40 pm40 ct40 : Value}
    {cd40 : Value}
    {f41 : Addr} {od41 an41 : Option Addr} {sl41 : Array (Option Value)} {oc41 kV41 dc41 pm41 ct41 : Value}
    {cd41 : Value}
    {f42 : Addr} {od42 an42 : Option Addr} {sl42 : Array (Option Value)} {oc42 kV42 dc42 pm42 ct42 : Value}
    {cd42 : Value}
    {f43 : Addr} {od43 an43 : Option Addr} {sl43 : Array (Option Value)} {oc43 kV43 dc43 pm43 ct43 : Value}
    {cd43 : Value}
    {f44 : Addr} {od44 an44 : Option Addr} {sl44 : Array (Option Value)} {oc44 kV44 dc44 pm44 ct44 : Value}
    {cd44 : Value}
    {f45 : Addr} {od45 an45 : Option Addr} {sl45 : Array (Option Value)} {oc45 kV45 dc45 pm45 ct45 : Value}
    {cd45 : Value}
    {f46 : Addr} {od46 an46 : Option Addr} {sl46 : Array (Option Value)} {oc46 kV46 dc46 pm46 ct46 : Value}
    {cd46 : Value}
    {f47 : Addr} {od47 an47 : Option Addr} {sl47 : Array (Option Value)} {oc47 kV47 dc47 pm47 ct47 : Value}
    {cd47 : Value}
    {f48 : Addr} {od48 an48 : Option Addr} {sl48 : Array (Option Value)} {oc48 kV48 dc48 pm48 ct48 : Value}
    {cd48 : Value}
    {f49 : Addr} {od49 an49 : Option Addr} {sl49 : Array (Option Value)} {oc49 kV49 dc49 pm49 ct49 : Value}
    {cd49 : Value}
    {f50 : Addr} {od50 an50 : Option Addr} {sl50 : Array (Option Value)} {oc50 kV50 dc50 pm50 ct50 : Value}
    {cd50 : Value}
    {f51 : Addr} {od51 an51 : Option Addr} {sl51 : Array (Option Value)} {oc51 kV51 dc51 pm51 ct51 : Value}
    {cd51 : Value}
    {f74 : Addr} {od74 an74 : Option Addr} {sl74 : Array (Option Value)} {oc74 kV74 dc74 pm74 ct74 : Value}
    {cd74 : Value}
    {f84 : Addr} {od84 an84 : Option Addr} {sl84 : Array (Option Value)} {oc84 kV84 dc84 pm84 ct84 : Value}
    {cd84 : Value}
    {f75 : Addr} {od75 an75 : Option Addr} {sl75 : Array (Option Value)} {oc75 kV75 dc75 pm75 ct75 : Value}
    {cd75 : Value}
    {f76 : Addr} {od76 an76 : Option Addr} {sl76 : Array (Option Value)} {oc76 kV76 dc76 pm76 ct76 : Value}
    {cd76 : Value}
    {f90 : Addr} {od90 an90 : Option Addr} {sl90 : Array (Option Value)} {oc90 kV90 dc90 pm90 ct90 : Value}
    {cd90 : Value}
    {f91 : Addr} {od91 an91 : Option Addr} {sl91 : Array (Option Value)} {oc91 kV91 dc91 pm91 ct91 : Value}
    {cd91 : Value}
    {f92 : Addr} {od92 an92 : Option Addr} {sl92 : Array (Option Value)} {oc92 kV92 dc92 pm92 ct92 : Value}
    {cd92 : Value}
    {f11 : Addr} {od11 an11 : Option Addr} {sl11 : Array (Option Value)} {oc11 kV11 dc11 pm11 ct11 : Value}
    {cd11 : Value}
    {f12 : Addr} {od12 an12 : Option Addr} {sl12 : Array (Option Value)} {oc12 kV12 dc12 pm12 ct12 : Value}
    {cd12 : Value}
    {f13 : Addr} {od13 an13 : Option Addr} {sl13 : Array (Option Value)} {oc13 kV13 dc13 pm13 ct13 : Value}
    {cd13 : Value}
    {f14 : Addr} {od14 an14 : Option Addr} {sl14 : Array (Option Value)} {oc14 kV14 dc14 pm14 ct14 : Value}
    {cd14 : Value}
    {f15 : Addr} {od15 an15 : Option Addr} {sl15 : Array (Option Value)} {oc15 kV15 dc15 pm15 ct15 : Value}
    {cd15 : Value}
    {f16 : Addr} {od16 an16 : Option Addr} {sl16 : Array (Option Value)} {oc16 kV16 dc16 pm16 ct16 : Value}
    {cd16 : Value}
    {f17 : Addr} {od17 an17 : Option Addr} {sl17 : Array (Option Value)} {oc17 kV17 dc17 pm17 ct17 : Value}
    {cd17 : Value}
    {f18 : Addr} {od18 an18 : Option Addr} {sl18 : Array (Option Value)} {oc18 kV18 dc18 pm18 ct18 : Value}
    {cd18 : Value}
    {f19 : Addr} {od19 an19 : Option Addr} {sl19 : Array (Option Value)} {oc19 kV19 dc19 pm19 ct19 : Value}
    {cd19 : Value}
    {f20 : Addr} {od20 an20 : Option Addr} {sl20 : Array (Option Value)} {oc20 kV20 dc20 pm20 ct20 : Value}
    {cd20 : Value}
    {f65 : Addr} {od65 an65 : Option Addr} {sl65 : Array (Option Value)} {oc65 kV65 dc65 pm65 ct65 : Value}
    {cd65 : Value}
    {f66 : Addr} {od66 an66 : Option Addr} {sl66 : Array (Option Value)} {oc66 kV66 dc66 pm66 ct66 : Value}
    {cd66 : Value}
    {f67 : Addr} {od67 an67 : Option Addr} {sl67 : Array (Option Value)} {oc67 kV67 dc67 pm67 ct67 : Value}
    {cd67 : Value}
    {f68 : Addr} {od68 an68 : Option Addr} {sl68 : Array (Option Value)} {oc68 kV68 dc68 pm68 ct68 : Value}
    {cd68 : Value}
    {f69 : Addr} {od69 an69 : Option Addr} {sl69 : Array (Option Value)} {oc69 kV69 dc69 pm69 ct69 : Value}
    {cd69 : Value}
    {f78 : Addr} {od78 an78 : Option Addr} {sl78 : Array (Option Value)} {oc78 kV78 dc78 pm78 ct78 : Value}
    {cd78 : Value}
    {f79 : Addr} {od79 an79 : Option Addr} {sl79 : Array (Option Value)} {oc79 kV79 dc79 pm79 ct79 : Value}
    {cd79 : Value}
    {f21 : Addr} {od21 an21 : Option Addr} {sl21 : Array (Option Value)} {oc21 kV21 dc21 pm21 ct21 : Value}
    {cd21 : Value}
    {f22 : Addr} {od22 an22 : Option Addr} {sl22 : Array (Option Value)} {oc22 kV22 dc22 pm22 ct22 : Value}
    {cd22 : Value}
    {f80 : Addr} {od80 an80 : Option Addr} {sl80 : Array (Option Value)} {oc80 kV80 dc80 pm80 ct80 : Value}
    {cd80 : Value}
    {f93 : Addr} {od93 an93 : Option Addr} {sl93 : Array (Option Value)} {oc93 kV93 dc93 pm93 ct93 : Value}
    {cd93 : Value}
    {f71 : Addr} {od71 an71 : Option Addr} {sl71 : Array (Option Value)} {oc71 kV71 dc71 pm71 ct71 : Value}
    {cd71 : Value}
    {f24 : Addr} {od24 an24 : Option Addr} {sl24 : Array (Option Value)} {oc24 kV24 dc24 pm24 ct24 : Value}
    {cd24 : Value}
    {f94 : Addr} {od94 an94 : Option Addr} {sl94 : Array (Option Value)} {oc94 kV94 dc94 pm94 ct94 : Value}
    {cd94 : Value}
    {f95 : Addr} {od95 an95 : Option Addr} {sl95 : Array (Option Value)} {oc95 kV95 dc95 pm95 ct95 : Value}
    {cd95 : Value}
    {f96 : Addr} {od96 an96 : Option Addr} {sl96 : Array (Option Value)} {oc96 kV96 dc96 pm96 ct96 : Value}
    {cL96 PL96 : Addr}
    {C0 : Addr}
    {C1 : Addr}
    {C2 : Addr}
    {C3 : Addr}
    {C4 : Addr}
    {C5 : Addr}
    {C6 : Addr}
    {C7 : Addr}
    {C8 : Addr}
    {C9 : Addr}
    {g0 : Value}
    {g1 : Value}
    {g2 : Value}
    {g8 : Value}
    {g9 : Value}
    {g4 : Value}
    {g5 : Value}
    {g6 : Value}
    {g7 : Value}
    (a0 : PySem.W.nsIn K mainGlobals "is_plain" = some (some (.ref f0)))
    (l0 : K.lookup f0 = some ⟨oc0, od0, .func (PySem.W.fnOf "is_plain" "is_plain" (defArgs s0) (defBody s0) (defScope s0) .none kV0 dc0 pm0 an0 cd0 ct0), sl0⟩)
    (b0 : PySem.W.codeIn K cd0 "is_plain" = true)
    (e0 : PySem.W.keepIn K (.ref f0) = true)
    (a1 : PySem.W.nsIn K mainGlobals "is_whole" = some (some (.ref f1)))
    (l1 : K.lookup f1 = some ⟨oc1, od1, .func (PySem.W.fnOf "is_whole" "is_whole" (defArgs s1) (defBody s1) (defScope s1) .none kV1 dc1 pm1 an1 cd1 ct1), sl1⟩)
    (b1 : PySem.W.codeIn K cd1 "is_whole" = true)
    (e1 : PySem.W.keepIn K (.ref f1) = true)
    (a2 : PySem.W.nsIn K mainGlobals "divisor_of" = some (some (.ref f2)))
    (l2 : K.lookup f2 = some ⟨oc2, od2, .func (PySem.W.fnOf "divisor_of" "divisor_of" (defArgs s2) (defBody s2) (defScope s2) .none kV2 dc2 pm2 an2 cd2 ct2), sl2⟩)
    (b2 : PySem.W.codeIn K cd2 "divisor_of" = true)
    (e2 : PySem.W.keepIn K (.ref f2) = true)
    (a31 : PySem.W.nsIn K mainGlobals "lowest" = some (some (.ref f31)))
    (l31 : K.lookup f31 = some ⟨oc31, od31, .func (PySem.W.fnOf "lowest" "lowest" (defArgs s31) (defBody s31) (defScope s31) .none kV31 dc31 pm31 an31 cd31 ct31), sl31⟩)
    (b31 : PySem.W.codeIn K cd31 "lowest" = true)
    (e31 : PySem.W.keepIn K (.ref f31) = true)
    (a5 : PySem.W.nsIn K mainGlobals "image_kind" = some (some (.ref f5)))
    (l5 : K.lookup f5 = some ⟨oc5, od5, .func (PySem.W.fnOf "image_kind" "image_kind" (defArgs s5) (defBody s5) (defScope s5) .none kV5 dc5 pm5 an5 cd5 ct5), sl5⟩)
    (b5 : PySem.W.codeIn K cd5 "image_kind" = true)
    (e5 : PySem.W.keepIn K (.ref f5) = true)
    (a6 : PySem.W.nsIn K mainGlobals "next_kind" = some (some (.ref f6)))
    (l6 : K.lookup f6 = some ⟨oc6, od6, .func (PySem.W.fnOf "next_kind" "next_kind" (defArgs s6) (defBody s6) (defScope s6) .none kV6 dc6 pm6 an6 cd6 ct6), sl6⟩)
    (b6 : PySem.W.codeIn K cd6 "next_kind" = true)
    (e6 : PySem.W.keepIn K (.ref f6) = true)
    (a7 : PySem.W.nsIn K mainGlobals "kinds_of" = some (some (.ref f7)))
    (l7 : K.lookup f7 = some ⟨oc7, od7, .func (PySem.W.fnOf "kinds_of" "kinds_of" (defArgs s7) (defBody s7) (defScope s7) .none kV7 dc7 pm7 an7 cd7 ct7), sl7⟩)
    (b7 : PySem.W.codeIn K cd7 "kinds_of" = true)
    (e7 : PySem.W.keepIn K (.ref f7) = true)
    (a8 : PySem.W.nsIn K mainGlobals "is_plan" = some (some (.ref f8)))
    (l8 : K.lookup f8 = some ⟨oc8, od8, .func (PySem.W.fnOf "is_plan" "is_plan" (defArgs s8) (defBody s8) (defScope s8) .none kV8 dc8 pm8 an8 cd8 ct8), sl8⟩)
    (b8 : PySem.W.codeIn K cd8 "is_plan" = true)
    (e8 : PySem.W.keepIn K (.ref f8) = true)
    (a9 : PySem.W.nsIn K mainGlobals "need_plan" = some (some (.ref f9)))
    (l9 : K.lookup f9 = some ⟨oc9, od9, .func (PySem.W.fnOf "need_plan" "need_plan" (defArgs s9) (defBody s9) (defScope s9) .none kV9 dc9 pm9 an9 cd9 ct9), sl9⟩)
    (b9 : PySem.W.codeIn K cd9 "need_plan" = true)
    (e9 : PySem.W.keepIn K (.ref f9) = true)
    (a33 : PySem.W.nsIn K mainGlobals "need_number" = some (some (.ref f33)))
    (l33 : K.lookup f33 = some ⟨oc33, od33, .func (PySem.W.fnOf "need_number" "need_number" (defArgs s33) (defBody s33) (defScope s33) .none kV33 dc33 pm33 an33 cd33 ct33), sl33⟩)
    (b33 : PySem.W.codeIn K cd33 "need_number" = true)
    (e33 : PySem.W.keepIn K (.ref f33) = true)
    (a34 : PySem.W.nsIn K mainGlobals "plus" = some (some (.ref f34)))
    (l34 : K.lookup f34 = some ⟨oc34, od34, .func (PySem.W.fnOf "plus" "plus" (defArgs s34) (defBody s34) (defScope s34) .none kV34 dc34 pm34 an34 cd34 ct34), sl34⟩)
    (b34 : PySem.W.codeIn K cd34 "plus" = true)
    (e34 : PySem.W.keepIn K (.ref f34) = true)
    (a35 : PySem.W.nsIn K mainGlobals "minus" = some (some (.ref f35)))
    (l35 : K.lookup f35 = some ⟨oc35, od35, .func (PySem.W.fnOf "minus" "minus" (defArgs s35) (defBody s35) (defScope s35) .none kV35 dc35 pm35 an35 cd35 ct35), sl35⟩)
    (b35 : PySem.W.codeIn K cd35 "minus" = true)
    (e35 : PySem.W.keepIn K (.ref f35) = true)
    (a36 : PySem.W.nsIn K mainGlobals "shared" = some (some (.ref f36)))
    (l36 : K.lookup f36 = some ⟨oc36, od36, .func (PySem.W.fnOf "shared" "shared" (defArgs s36) (defBody s36) (defScope s36) .none kV36 dc36 pm36 an36 cd36 ct36), sl36⟩)
    (b36 : PySem.W.codeIn K cd36 "shared" = true)
    (e36 : PySem.W.keepIn K (.ref f36) = true)
    (a37 : PySem.W.nsIn K mainGlobals "twice" = some (some (.ref f37)))
    (l37 : K.lookup f37 = some ⟨oc37, od37, .func (PySem.W.fnOf "twice" "twice" (defArgs s37) (defBody s37) (defScope s37) .none kV37 dc37 pm37 an37 cd37 ct37), sl37⟩)
    (b37 : PySem.W.codeIn K cd37 "twice" = true)
    (e37 : PySem.W.keepIn K (.ref f37) = true)
    (a38 : PySem.W.nsIn K mainGlobals "worth" = some (some (.ref f38)))
    (l38 : K.lookup f38 = some ⟨oc38, od38, .func (PySem.W.fnOf "worth" "worth" (defArgs s38) (defBody s38) (defScope s38) .none kV38 dc38 pm38 an38 cd38 ct38), sl38⟩)
    (b38 : PySem.W.codeIn K cd38 "worth" = true)
    (e38 : PySem.W.keepIn K (.ref f38) = true)
    (a39 : PySem.W.nsIn K mainGlobals "root_of" = some (some (.ref f39)))
    (l39 : K.lookup f39 = some ⟨oc39, od39, .func (PySem.W.fnOf "root_of" "root_of" (defArgs s39) (defBody s39) (defScope s39) .none kV39 dc39 pm39 an39 cd39 ct39), sl39⟩)
    (b39 : PySem.W.codeIn K cd39 "root_of" = true)
    (e39 : PySem.W.keepIn K (.ref f39) = true)
    (a40 : PySem.W.nsIn K mainGlobals "is_less" = some (some (.ref f40)))
    (l40 : K.lookup f40 = some ⟨oc40, od40, .func (PySem.W.fnOf "is_less" "is_less" (defArgs s40) (defBody s40) (defScope s40) .none kV40 dc40 pm40 an40 cd40 ct40), sl40⟩)
    (b40 : PySem.W.codeIn K cd40 "is_less" = true)
    (e40 : PySem.W.keepIn K (.ref f40) = true)
    (a41 : PySem.W.nsIn K mainGlobals "root_in" = some (some (.ref f41)))
    (l41 : K.lookup f41 = some ⟨oc41, od41, .func (PySem.W.fnOf "root_in" "root_in" (defArgs s41) (defBody s41) (defScope s41) .none kV41 dc41 pm41 an41 cd41 ct41), sl41⟩)
    (b41 : PySem.W.codeIn K cd41 "root_in" = true)
    (e41 : PySem.W.keepIn K (.ref f41) = true)
    (a42 : PySem.W.nsIn K mainGlobals "inner" = some (some (.ref f42)))
    (l42 : K.lookup f42 = some ⟨oc42, od42, .func (PySem.W.fnOf "inner" "inner" (defArgs s42) (defBody s42) (defScope s42) .none kV42 dc42 pm42 an42 cd42 ct42), sl42⟩)
    (b42 : PySem.W.codeIn K cd42 "inner" = true)
    (e42 : PySem.W.keepIn K (.ref f42) = true)
    (a43 : PySem.W.nsIn K mainGlobals "sign_in" = some (some (.ref f43)))
    (l43 : K.lookup f43 = some ⟨oc43, od43, .func (PySem.W.fnOf "sign_in" "sign_in" (defArgs s43) (defBody s43) (defScope s43) .none kV43 dc43 pm43 an43 cd43 ct43), sl43⟩)
    (b43 : PySem.W.codeIn K cd43 "sign_in" = true)
    (e43 : PySem.W.keepIn K (.ref f43) = true)
    (a44 : PySem.W.nsIn K mainGlobals "cut_at" = some (some (.ref f44)))
    (l44 : K.lookup f44 = some ⟨oc44, od44, .func (PySem.W.fnOf "cut_at" "cut_at" (defArgs s44) (defBody s44) (defScope s44) .none kV44 dc44 pm44 an44 cd44 ct44), sl44⟩)
    (b44 : PySem.W.codeIn K cd44 "cut_at" = true)
    (e44 : PySem.W.keepIn K (.ref f44) = true)
    (a45 : PySem.W.nsIn K mainGlobals "first_root" = some (some (.ref f45)))
    (l45 : K.lookup f45 = some ⟨oc45, od45, .func (PySem.W.fnOf "first_root" "first_root" (defArgs s45) (defBody s45) (defScope s45) .none kV45 dc45 pm45 an45 cd45 ct45), sl45⟩)
    (b45 : PySem.W.codeIn K cd45 "first_root" = true)
    (e45 : PySem.W.keepIn K (.ref f45) = true)
    (a46 : PySem.W.nsIn K mainGlobals "crossing" = some (some (.ref f46)))
    (l46 : K.lookup f46 = some ⟨oc46, od46, .func (PySem.W.fnOf "crossing" "crossing" (defArgs s46) (defBody s46) (defScope s46) .none kV46 dc46 pm46 an46 cd46 ct46), sl46⟩)
    (b46 : PySem.W.codeIn K cd46 "crossing" = true)
    (e46 : PySem.W.keepIn K (.ref f46) = true)
    (a47 : PySem.W.nsIn K mainGlobals "line_through" = some (some (.ref f47)))
    (l47 : K.lookup f47 = some ⟨oc47, od47, .func (PySem.W.fnOf "line_through" "line_through" (defArgs s47) (defBody s47) (defScope s47) .none kV47 dc47 pm47 an47 cd47 ct47), sl47⟩)
    (b47 : PySem.W.codeIn K cd47 "line_through" = true)
    (e47 : PySem.W.keepIn K (.ref f47) = true)
    (a48 : PySem.W.nsIn K mainGlobals "image_of" = some (some (.ref f48)))
    (l48 : K.lookup f48 = some ⟨oc48, od48, .func (PySem.W.fnOf "image_of" "image_of" (defArgs s48) (defBody s48) (defScope s48) .none kV48 dc48 pm48 an48 cd48 ct48), sl48⟩)
    (b48 : PySem.W.codeIn K cd48 "image_of" = true)
    (e48 : PySem.W.keepIn K (.ref f48) = true)
    (a49 : PySem.W.nsIn K mainGlobals "inside_lengths" = some (some (.ref f49)))
    (l49 : K.lookup f49 = some ⟨oc49, od49, .func (PySem.W.fnOf "inside_lengths" "inside_lengths" (defArgs s49) (defBody s49) (defScope s49) .none kV49 dc49 pm49 an49 cd49 ct49), sl49⟩)
    (b49 : PySem.W.codeIn K cd49 "inside_lengths" = true)
    (e49 : PySem.W.keepIn K (.ref f49) = true)
    (a50 : PySem.W.nsIn K mainGlobals "asked" = some (some (.ref f50)))
    (l50 : K.lookup f50 = some ⟨oc50, od50, .func (PySem.W.fnOf "asked" "asked" (defArgs s50) (defBody s50) (defScope s50) .none kV50 dc50 pm50 an50 cd50 ct50), sl50⟩)
    (b50 : PySem.W.codeIn K cd50 "asked" = true)
    (e50 : PySem.W.keepIn K (.ref f50) = true)
    (a51 : PySem.W.nsIn K mainGlobals "advanced" = some (some (.ref f51)))
    (l51 : K.lookup f51 = some ⟨oc51, od51, .func (PySem.W.fnOf "advanced" "advanced" (defArgs s51) (defBody s51) (defScope s51) .none kV51 dc51 pm51 an51 cd51 ct51), sl51⟩)
    (b51 : PySem.W.codeIn K cd51 "advanced" = true)
    (e51 : PySem.W.keepIn K (.ref f51) = true)
    (a74 : PySem.W.nsIn K mainGlobals "course" = some (some (.ref f74)))
    (l74 : K.lookup f74 = some ⟨oc74, od74, .func (PySem.W.fnOf "course" "course" (defArgs s74) (defBody s74) (defScope s74) .none kV74 dc74 pm74 an74 cd74 ct74), sl74⟩)
    (b74 : PySem.W.codeIn K cd74 "course" = true)
    (e74 : PySem.W.keepIn K (.ref f74) = true)
    (a84 : PySem.W.nsIn K mainGlobals "refined" = some (some (.ref f84)))
    (l84 : K.lookup f84 = some ⟨oc84, od84, .func (PySem.W.fnOf "refined" "refined" (defArgs s84) (defBody s84) (defScope s84) .none kV84 dc84 pm84 an84 cd84 ct84), sl84⟩)
    (b84 : PySem.W.codeIn K cd84 "refined" = true)
    (e84 : PySem.W.keepIn K (.ref f84) = true)
    (a75 : PySem.W.nsIn K mainGlobals "range_of" = some (some (.ref f75)))
    (l75 : K.lookup f75 = some ⟨oc75, od75, .func (PySem.W.fnOf "range_of" "range_of" (defArgs s75) (defBody s75) (defScope s75) .none kV75 dc75 pm75 an75 cd75 ct75), sl75⟩)
    (b75 : PySem.W.codeIn K cd75 "range_of" = true)
    (e75 : PySem.W.keepIn K (.ref f75) = true)
    (a76 : PySem.W.nsIn K mainGlobals "joined" = some (some (.ref f76)))
    (l76 : K.lookup f76 = some ⟨oc76, od76, .func (PySem.W.fnOf "joined" "joined" (defArgs s76) (defBody s76) (defScope s76) .none kV76 dc76 pm76 an76 cd76 ct76), sl76⟩)
    (b76 : PySem.W.codeIn K cd76 "joined" = true)
    (e76 : PySem.W.keepIn K (.ref f76) = true)
    (a90 : PySem.W.nsIn K mainGlobals "ranges_true" = some (some (.ref f90)))
    (l90 : K.lookup f90 = some ⟨oc90, od90, .func (PySem.W.fnOf "ranges_true" "ranges_true" (defArgs s90) (defBody s90) (defScope s90) .none kV90 dc90 pm90 an90 cd90 ct90), sl90⟩)
    (b90 : PySem.W.codeIn K cd90 "ranges_true" = true)
    (e90 : PySem.W.keepIn K (.ref f90) = true)
    (a91 : PySem.W.nsIn K mainGlobals "same_rows" = some (some (.ref f91)))
    (l91 : K.lookup f91 = some ⟨oc91, od91, .func (PySem.W.fnOf "same_rows" "same_rows" (defArgs s91) (defBody s91) (defScope s91) .none kV91 dc91 pm91 an91 cd91 ct91), sl91⟩)
    (b91 : PySem.W.codeIn K cd91 "same_rows" = true)
    (e91 : PySem.W.keepIn K (.ref f91) = true)
    (a92 : PySem.W.nsIn K mainGlobals "same_line" = some (some (.ref f92)))
    (l92 : K.lookup f92 = some ⟨oc92, od92, .func (PySem.W.fnOf "same_line" "same_line" (defArgs s92) (defBody s92) (defScope s92) .none kV92 dc92 pm92 an92 cd92 ct92), sl92⟩)
    (b92 : PySem.W.codeIn K cd92 "same_line" = true)
    (e92 : PySem.W.keepIn K (.ref f92) = true)
    (a11 : PySem.W.nsIn K mainGlobals "_law_cell" = some (some (.ref f11)))
    (l11 : K.lookup f11 = some ⟨oc11, od11, .func (PySem.W.fnOf "_law_cell" "_law_cell" (defArgs s11) (defBody s11) (defScope s11) .none kV11 dc11 pm11 an11 cd11 ct11), sl11⟩)
    (b11 : PySem.W.codeIn K cd11 "_law_cell" = true)
    (e11 : PySem.W.keepIn K (.ref f11) = true)
    (a12 : PySem.W.nsIn K mainGlobals "_law_draws" = some (some (.ref f12)))
    (l12 : K.lookup f12 = some ⟨oc12, od12, .func (PySem.W.fnOf "_law_draws" "_law_draws" (defArgs s12) (defBody s12) (defScope s12) .none kV12 dc12 pm12 an12 cd12 ct12), sl12⟩)
    (b12 : PySem.W.codeIn K cd12 "_law_draws" = true)
    (e12 : PySem.W.keepIn K (.ref f12) = true)
    (a13 : PySem.W.nsIn K mainGlobals "_law_bag" = some (some (.ref f13)))
    (l13 : K.lookup f13 = some ⟨oc13, od13, .func (PySem.W.fnOf "_law_bag" "_law_bag" (defArgs s13) (defBody s13) (defScope s13) .none kV13 dc13 pm13 an13 cd13 ct13), sl13⟩)
    (b13 : PySem.W.codeIn K cd13 "_law_bag" = true)
    (e13 : PySem.W.keepIn K (.ref f13) = true)
    (a14 : PySem.W.nsIn K mainGlobals "_law_take" = some (some (.ref f14)))
    (l14 : K.lookup f14 = some ⟨oc14, od14, .func (PySem.W.fnOf "_law_take" "_law_take" (defArgs s14) (defBody s14) (defScope s14) .none kV14 dc14 pm14 an14 cd14 ct14), sl14⟩)
    (b14 : PySem.W.codeIn K cd14 "_law_take" = true)
    (e14 : PySem.W.keepIn K (.ref f14) = true)
    (a15 : PySem.W.nsIn K mainGlobals "_law_choice" = some (some (.ref f15)))
    (l15 : K.lookup f15 = some ⟨oc15, od15, .func (PySem.W.fnOf "_law_choice" "_law_choice" (defArgs s15) (defBody s15) (defScope s15) .none kV15 dc15 pm15 an15 cd15 ct15), sl15⟩)
    (b15 : PySem.W.codeIn K cd15 "_law_choice" = true)
    (e15 : PySem.W.keepIn K (.ref f15) = true)
    (a16 : PySem.W.nsIn K mainGlobals "_law_lowest" = some (some (.ref f16)))
    (l16 : K.lookup f16 = some ⟨oc16, od16, .func (PySem.W.fnOf "_law_lowest" "_law_lowest" (defArgs s16) (defBody s16) (defScope s16) .none kV16 dc16 pm16 an16 cd16 ct16), sl16⟩)
    (b16 : PySem.W.codeIn K cd16 "_law_lowest" = true)
    (e16 : PySem.W.keepIn K (.ref f16) = true)
    (a17 : PySem.W.nsIn K mainGlobals "_law_turned_kind" = some (some (.ref f17)))
    (l17 : K.lookup f17 = some ⟨oc17, od17, .func (PySem.W.fnOf "_law_turned_kind" "_law_turned_kind" (defArgs s17) (defBody s17) (defScope s17) .none kV17 dc17 pm17 an17 cd17 ct17), sl17⟩)
    (b17 : PySem.W.codeIn K cd17 "_law_turned_kind" = true)
    (e17 : PySem.W.keepIn K (.ref f17) = true)
    (a18 : PySem.W.nsIn K mainGlobals "_law_step" = some (some (.ref f18)))
    (l18 : K.lookup f18 = some ⟨oc18, od18, .func (PySem.W.fnOf "_law_step" "_law_step" (defArgs s18) (defBody s18) (defScope s18) .none kV18 dc18 pm18 an18 cd18 ct18), sl18⟩)
    (b18 : PySem.W.codeIn K cd18 "_law_step" = true)
    (e18 : PySem.W.keepIn K (.ref f18) = true)
    (a19 : PySem.W.nsIn K mainGlobals "_law_kinds" = some (some (.ref f19)))
    (l19 : K.lookup f19 = some ⟨oc19, od19, .func (PySem.W.fnOf "_law_kinds" "_law_kinds" (defArgs s19) (defBody s19) (defScope s19) .none kV19 dc19 pm19 an19 cd19 ct19), sl19⟩)
    (b19 : PySem.W.codeIn K cd19 "_law_kinds" = true)
    (e19 : PySem.W.keepIn K (.ref f19) = true)
    (a20 : PySem.W.nsIn K mainGlobals "_law_plan" = some (some (.ref f20)))
    (l20 : K.lookup f20 = some ⟨oc20, od20, .func (PySem.W.fnOf "_law_plan" "_law_plan" (defArgs s20) (defBody s20) (defScope s20) .none kV20 dc20 pm20 an20 cd20 ct20), sl20⟩)
    (b20 : PySem.W.codeIn K cd20 "_law_plan" = true)
    (e20 : PySem.W.keepIn K (.ref f20) = true)
    (a65 : PySem.W.nsIn K mainGlobals "_law_point" = some (some (.ref f65)))
    (l65 : K.lookup f65 = some ⟨oc65, od65, .func (PySem.W.fnOf "_law_point" "_law_point" (defArgs s65) (defBody s65) (defScope s65) .none kV65 dc65 pm65 an65 cd65 ct65), sl65⟩)
    (b65 : PySem.W.codeIn K cd65 "_law_point" = true)
    (e65 : PySem.W.keepIn K (.ref f65) = true)
    (a66 : PySem.W.nsIn K mainGlobals "_law_image" = some (some (.ref f66)))
    (l66 : K.lookup f66 = some ⟨oc66, od66, .func (PySem.W.fnOf "_law_image" "_law_image" (defArgs s66) (defBody s66) (defScope s66) .none kV66 dc66 pm66 an66 cd66 ct66), sl66⟩)
    (b66 : PySem.W.codeIn K cd66 "_law_image" = true)
    (e66 : PySem.W.keepIn K (.ref f66) = true)
    (a67 : PySem.W.nsIn K mainGlobals "_law_inside" = some (some (.ref f67)))
    (l67 : K.lookup f67 = some ⟨oc67, od67, .func (PySem.W.fnOf "_law_inside" "_law_inside" (defArgs s67) (defBody s67) (defScope s67) .none kV67 dc67 pm67 an67 cd67 ct67), sl67⟩)
    (b67 : PySem.W.codeIn K cd67 "_law_inside" = true)
    (e67 : PySem.W.keepIn K (.ref f67) = true)
    (a68 : PySem.W.nsIn K mainGlobals "_law_made" = some (some (.ref f68)))
    (l68 : K.lookup f68 = some ⟨oc68, od68, .func (PySem.W.fnOf "_law_made" "_law_made" (defArgs s68) (defBody s68) (defScope s68) .none kV68 dc68 pm68 an68 cd68 ct68), sl68⟩)
    (b68 : PySem.W.codeIn K cd68 "_law_made" = true)
    (e68 : PySem.W.keepIn K (.ref f68) = true)
    (a69 : PySem.W.nsIn K mainGlobals "_law_lines" = some (some (.ref f69)))
    (l69 : K.lookup f69 = some ⟨oc69, od69, .func (PySem.W.fnOf "_law_lines" "_law_lines" (defArgs s69) (defBody s69) (defScope s69) .none kV69 dc69 pm69 an69 cd69 ct69), sl69⟩)
    (b69 : PySem.W.codeIn K cd69 "_law_lines" = true)
    (e69 : PySem.W.keepIn K (.ref f69) = true)
    (a78 : PySem.W.nsIn K mainGlobals "_law_less" = some (some (.ref f78)))
    (l78 : K.lookup f78 = some ⟨oc78, od78, .func (PySem.W.fnOf "_law_less" "_law_less" (defArgs s78) (defBody s78) (defScope s78) .none kV78 dc78 pm78 an78 cd78 ct78), sl78⟩)
    (b78 : PySem.W.codeIn K cd78 "_law_less" = true)
    (e78 : PySem.W.keepIn K (.ref f78) = true)
    (a79 : PySem.W.nsIn K mainGlobals "_law_in" = some (some (.ref f79)))
    (l79 : K.lookup f79 = some ⟨oc79, od79, .func (PySem.W.fnOf "_law_in" "_law_in" (defArgs s79) (defBody s79) (defScope s79) .none kV79 dc79 pm79 an79 cd79 ct79), sl79⟩)
    (b79 : PySem.W.codeIn K cd79 "_law_in" = true)
    (e79 : PySem.W.keepIn K (.ref f79) = true)
    (a21 : PySem.W.nsIn K mainGlobals "_law_simple" = some (some (.ref f21)))
    (l21 : K.lookup f21 = some ⟨oc21, od21, .func (PySem.W.fnOf "_law_simple" "_law_simple" (defArgs s21) (defBody s21) (defScope s21) .none kV21 dc21 pm21 an21 cd21 ct21), sl21⟩)
    (b21 : PySem.W.codeIn K cd21 "_law_simple" = true)
    (e21 : PySem.W.keepIn K (.ref f21) = true)
    (a22 : PySem.W.nsIn K mainGlobals "_law_some" = some (some (.ref f22)))
    (l22 : K.lookup f22 = some ⟨oc22, od22, .func (PySem.W.fnOf "_law_some" "_law_some" (defArgs s22) (defBody s22) (defScope s22) .none kV22 dc22 pm22 an22 cd22 ct22), sl22⟩)
    (b22 : PySem.W.codeIn K cd22 "_law_some" = true)
    (e22 : PySem.W.keepIn K (.ref f22) = true)
    (a80 : PySem.W.nsIn K mainGlobals "_law_ends" = some (some (.ref f80)))
    (l80 : K.lookup f80 = some ⟨oc80, od80, .func (PySem.W.fnOf "_law_ends" "_law_ends" (defArgs s80) (defBody s80) (defScope s80) .none kV80 dc80 pm80 an80 cd80 ct80), sl80⟩)
    (b80 : PySem.W.codeIn K cd80 "_law_ends" = true)
    (e80 : PySem.W.keepIn K (.ref f80) = true)
    (a93 : PySem.W.nsIn K mainGlobals "_law_apart" = some (some (.ref f93)))
    (l93 : K.lookup f93 = some ⟨oc93, od93, .func (PySem.W.fnOf "_law_apart" "_law_apart" (defArgs s93) (defBody s93) (defScope s93) .none kV93 dc93 pm93 an93 cd93 ct93), sl93⟩)
    (b93 : PySem.W.codeIn K cd93 "_law_apart" = true)
    (e93 : PySem.W.keepIn K (.ref f93) = true)
    (a71 : PySem.W.nsIn K mainGlobals "_law_named_error" = some (some (.ref f71)))
    (l71 : K.lookup f71 = some ⟨oc71, od71, .func (PySem.W.fnOf "_law_named_error" "_law_named_error" (defArgs s71) (defBody s71) (defScope s71) .none kV71 dc71 pm71 an71 cd71 ct71), sl71⟩)
    (b71 : PySem.W.codeIn K cd71 "_law_named_error" = true)
    (e71 : PySem.W.keepIn K (.ref f71) = true)
    (a24 : PySem.W.nsIn K mainGlobals "_law_error" = some (some (.ref f24)))
    (l24 : K.lookup f24 = some ⟨oc24, od24, .func (PySem.W.fnOf "_law_error" "_law_error" (defArgs s24) (defBody s24) (defScope s24) .none kV24 dc24 pm24 an24 cd24 ct24), sl24⟩)
    (b24 : PySem.W.codeIn K cd24 "_law_error" = true)
    (e24 : PySem.W.keepIn K (.ref f24) = true)
    (a94 : PySem.W.nsIn K mainGlobals "_law_are_one" = some (some (.ref f94)))
    (l94 : K.lookup f94 = some ⟨oc94, od94, .func (PySem.W.fnOf "_law_are_one" "_law_are_one" (defArgs s94) (defBody s94) (defScope s94) .none kV94 dc94 pm94 an94 cd94 ct94), sl94⟩)
    (b94 : PySem.W.codeIn K cd94 "_law_are_one" = true)
    (e94 : PySem.W.keepIn K (.ref f94) = true)
    (a95 : PySem.W.nsIn K mainGlobals "_law_meeting" = some (some (.ref f95)))
    (l95 : K.lookup f95 = some ⟨oc95, od95, .func (PySem.W.fnOf "_law_meeting" "_law_meeting" (defArgs s95) (defBody s95) (defScope s95) .none kV95 dc95 pm95 an95 cd95 ct95), sl95⟩)
    (b95 : PySem.W.codeIn K cd95 "_law_meeting" = true)
    (e95 : PySem.W.keepIn K (.ref f95) = true)
    (a96 : PySem.W.nsIn K mainGlobals "law" = some (some (.ref f96)))
    (l96 : K.lookup f96 = some ⟨oc96, od96, .func (PySem.W.fnOf "law" "law" (defArgs s96) (defBody s96) (defScope s96) .none kV96 dc96 pm96 an96 (.ref cL96) ct96), sl96⟩)
    (b96 : PySem.W.codeIn K (.ref cL96) "law" = true)
    (e96 : PySem.W.keepIn K (.ref f96) = true)
    (hx96 : PL96 ∈ ts ∧ PySem.W.codeHdIn K cL96 PL96 = true)
    (hn96 : K.lookup PL96 = none)
    (x0 : PySem.W.nsIn K mainGlobals "FoldError" = some (some (.ref C0)))
    (x1 : PySem.W.nsIn K mainGlobals "InvalidPlan" = some (some (.ref C1)))
    (y1 : PySem.W.keepIn K (.ref C1) = true)
    (q1 : PySem.W.excIn K C1 [.type "ValueError", .type "Exception", .type "BaseException", .type "object"] "ValueError.__new__" = true)
    (u1 : PySem.W.subIn K (.ref C1) (.type "BaseException") = some true)
    (v1 : PySem.W.typeIn K (.ref C1) = some (.type "type"))
    (x2 : PySem.W.nsIn K mainGlobals "InvalidRatio" = some (some (.ref C2)))
    (x3 : PySem.W.nsIn K mainGlobals "InvalidNumber" = some (some (.ref C3)))
    (y3 : PySem.W.keepIn K (.ref C3) = true)
    (q3 : PySem.W.excIn K C3 [.type "ValueError", .type "Exception", .type "BaseException", .type "object"] "ValueError.__new__" = true)
    (u3 : PySem.W.subIn K (.ref C3) (.type "BaseException") = some true)
    (v3 : PySem.W.typeIn K (.ref C3) = some (.type "type"))
    (x4 : PySem.W.nsIn K mainGlobals "InvalidShare" = some (some (.ref C4)))
    (x5 : PySem.W.nsIn K mainGlobals "InvalidFacts" = some (some (.ref C5)))
    (x6 : PySem.W.nsIn K mainGlobals "InvalidStep" = some (some (.ref C6)))
    (x7 : PySem.W.nsIn K mainGlobals "InvalidText" = some (some (.ref C7)))
    (x8 : PySem.W.nsIn K mainGlobals "NotMade" = some (some (.ref C8)))
    (x9 : PySem.W.nsIn K mainGlobals "NothingToUndo" = some (some (.ref C9)))
    (h1_1 : PySem.W.findIn K (.ref C1) "__getattribute__" = some (some (.builtin "BaseException.__getattribute__")))
    (h2_1 : PySem.W.findIn K (.ref C1) "__getattr__" = some none)
    (h4_1 : PySem.W.hasDictIn K C1 = true)
    (h5_1 : PySem.W.findIn K (.ref C1) "__class__" = some (some (.builtin "object.__class__")))
    (h8_1 : PySem.W.mroIn K C1 (.type "object") = some true)
    (k1_0_0 : PySem.W.kitOne K (.ref C1) (.ref C1) = some true)
    (k1_0_1 : PySem.W.kitOne K (.ref C1) (.ref C2) = some false)
    (k1_0_2 : PySem.W.kitOne K (.ref C1) (.ref C3) = some false)
    (k1_1_0 : PySem.W.kitOne K (.ref C1) (.ref C4) = some false)
    (k1_1_1 : PySem.W.kitOne K (.ref C1) (.ref C5) = some false)
    (k1_1_2 : PySem.W.kitOne K (.ref C1) (.ref C6) = some false)
    (k1_2_0 : PySem.W.kitOne K (.ref C1) (.ref C7) = some false)
    (k1_2_1 : PySem.W.kitOne K (.ref C1) (.ref C8) = some false)
    (k1_2_2 : PySem.W.kitOne K (.ref C1) (.ref C9) = some false)
    (k1_3_0 : PySem.W.kitOne K (.ref C1) (.type "ValueError") = some true)
    (z1 : PySem.W.exmOne K (.ref C1) (.ref C0) = some true)
    (h1_3 : PySem.W.findIn K (.ref C3) "__getattribute__" = some (some (.builtin "BaseException.__getattribute__")))
    (h2_3 : PySem.W.findIn K (.ref C3) "__getattr__" = some none)
    (h4_3 : PySem.W.hasDictIn K C3 = true)
    (h5_3 : PySem.W.findIn K (.ref C3) "__class__" = some (some (.builtin "object.__class__")))
    (h8_3 : PySem.W.mroIn K C3 (.type "object") = some true)
    (k3_0_0 : PySem.W.kitOne K (.ref C3) (.ref C1) = some false)
    (k3_0_1 : PySem.W.kitOne K (.ref C3) (.ref C2) = some false)
    (k3_0_2 : PySem.W.kitOne K (.ref C3) (.ref C3) = some true)
    (k3_1_0 : PySem.W.kitOne K (.ref C3) (.ref C4) = some false)
    (k3_1_1 : PySem.W.kitOne K (.ref C3) (.ref C5) = some false)
    (k3_1_2 : PySem.W.kitOne K (.ref C3) (.ref C6) = some false)
    (k3_2_0 : PySem.W.kitOne K (.ref C3) (.ref C7) = some false)
    (k3_2_1 : PySem.W.kitOne K (.ref C3) (.ref C8) = some false)
    (k3_2_2 : PySem.W.kitOne K (.ref C3) (.ref C9) = some false)
    (k3_3_0 : PySem.W.kitOne K (.ref C3) (.type "ValueError") = some true)
    (z3 : PySem.W.exmOne K (.ref C3) (.ref C0) = some true)
    (h6 : PySem.W.specialIn K (.builtin "object.__class__") "__get__" = some (some (.builtin "getset_descriptor.__get__")))
    (h7 : PySem.W.takesIn K (.builtin "object.__class__") = some true)
    (zv : PySem.W.nsIn K mainGlobals "ValueError" = some none)
    (m0 : PySem.W.nsIn K mainGlobals "KINDS" = some (some g0))
    (d0 : dpK K 8 g0 = some (.tuple [(.str "upright"), (.str "level"), (.str "up"), (.str "down")]))
    (m1 : PySem.W.nsIn K mainGlobals "EDGES" = some (some g1))
    (d1 : dpK K 8 g1 = some (.tuple [(.str "upright"), (.str "level"), (.str "upright"), (.str "level")]))
    (m2 : PySem.W.nsIn K mainGlobals "MOST_STEPS" = some (some g2))
    (d2 : dpK K 8 g2 = some (.int 6))
    (m8 : PySem.W.nsIn K mainGlobals "LOW" = some (some g8))
    (d8 : dpK K 8 g8 = some (.tuple [(.int 0), (.int 1)]))
    (m9 : PySem.W.nsIn K mainGlobals "HIGH" = some (some g9))
    (d9 : dpK K 8 g9 = some (.tuple [(.int 1), (.int 0)]))
    (m4 : PySem.W.nsIn K mainGlobals "WIDTH" = some (some g4))
    (d4 : dpK K 8 g4 = some (.tuple [(.int 46656), (.int 0)]))
    (m5 : PySem.W.nsIn K mainGlobals "HEIGHT" = some (some g5))
    (d5 : dpK K 8 g5 = some (.tuple [(.int 0), (.int 46656)]))
    (m6 : PySem.W.nsIn K mainGlobals "NONE" = some (some g6))
    (d6 : dpK K 8 g6 = some (.tuple [(.int 0), (.int 0)]))
    (m7 : PySem.W.nsIn K mainGlobals "EDGE_LINES" = some (some g7))
    (d7 : dpK K 8 g7 = some (.tuple [(.tuple [(.str "upright"), (.tuple [(.int 0), (.int 0)])]), (.tuple [(.str "level"), (.tuple [(.int 0), (.int 0)])]), (.tuple [(.str "upright"), (.tuple [(.int 46656), (.int 0)])]), (.tuple [(.str "level"), (.tuple [(.int 0), (.int 46656)])])]))
    (z_0 : PySem.W.nsIn K mainGlobals "len" = some none)
    (z_1 : PySem.W.nsIn K mainGlobals "abs" = some none)
    (z_2 : PySem.W.nsIn K mainGlobals "int" = some none)
    (z_3 : PySem.W.nsIn K mainGlobals "str" = some none)
    (z_4 : PySem.W.nsIn K mainGlobals "list" = some none)
    (z_5 : PySem.W.nsIn K mainGlobals "tuple" = some none)
    (z_6 : PySem.W.nsIn K mainGlobals "all" = some none)
    (z_7 : PySem.W.nsIn K mainGlobals "any" = some none)
    (z_8 : PySem.W.nsIn K mainGlobals "bool" = some none)
    (z_9 : PySem.W.nsIn K mainGlobals "min" = some none)
    (z_10 : PySem.W.nsIn K mainGlobals "set" = some none)
    (z_11 : PySem.W.nsIn K mainGlobals "sorted" = some none)
    (z_12 : PySem.W.nsIn K mainGlobals "range" = some none)
    (z_13 : PySem.W.nsIn K mainGlobals "enumerate" = some none)
    (z_14 : PySem.W.nsIn K mainGlobals "zip" = some none)
    (z_15 : PySem.W.nsIn K mainGlobals "isinstance" = some none)
    (hlaw : ∀ ns : List Int, ns.length ≤ 63 → ∃ zs, callF Q 70 96 [.list (ns.map .int)] = .ok (.bool true, zs)) :
    LawAtS PySem.Challenge.rw_openfolds_k05_whole_lines_that_are_one w K (L2N.CX PySem.Challenge.rw_openfolds_k05_whole_lines_that_are_one.prog w) 70 63 "_law_script" mg fa h := by
  have efa := hfa.symm.trans (PySem.W.mg_of X G a96)
  cases efa
  let cs : List (Addr × Addr) := [(cL96, PL96)]
  let Tb : Tbs := [(PL96, ("law" ++ ".<locals>." : Str) ++ "<lambda>")]
  let ca : Nat → Addr := fun c => ([C0, C1, C2, C3, C4, C5, C6, C7, C8, C9] : List Addr).getD c 0
  have hcs : ∀ p ∈ cs, p.2 ∈ ts ∧ K.lookup p.2 = none ∧ PySem.W.codeHdIn K p.1 p.2 = true := by
    intro p hp
    simp only [cs, List.mem_cons, List.not_mem_nil, or_false] at hp
    rcases hp with rfl
    · exact ⟨hx96.1, hn96, hx96.2⟩
  have U0 := fun_mk (st := s0) l0 b0 e0
  have n0 := U0.binds (ps := p0) (fun _ _ _ _ _ _ us hl => match us, hl with | [_], _ => rfl)
  have U1 := fun_mk (st := s1) l1 b1 e1
  have n1 := U1.binds (ps := p1) (fun _ _ _ _ _ _ us hl => match us, hl with | [_, _, _], _ => rfl)
  have U2 := fun_mk (st := s2) l2 b2 e2
  have n2 := U2.binds (ps := p2) (fun _ _ _ _ _ _ us hl => match us, hl with | [_, _], _ => rfl)
  have U31 := fun_mk (st := s31) l31 b31 e31
  have n31 := U31.binds (ps := p31) (fun _ _ _ _ _ _ us hl => match us, hl with | [_, _], _ => rfl)
  have U5 := fun_mk (st := s5) l5 b5 e5
  have n5 := U5.binds (ps := p5) (fun _ _ _ _ _ _ us hl => match us, hl with | [_, _], _ => rfl)
  have U6 := fun_mk (st := s6) l6 b6 e6
  have n6 := U6.binds (ps := p6) (fun _ _ _ _ _ _ us hl => match us, hl with | [_, _], _ => rfl)
  have U7 := fun_mk (st := s7) l7 b7 e7
  have n7 := U7.binds (ps := p7) (fun _ _ _ _ _ _ us hl => match us, hl with | [_], _ => rfl)
  have U8 := fun_mk (st := s8) l8 b8 e8
  have n8 := U8.binds (ps := p8) (fun _ _ _ _ _ _ us hl => match us, hl with | [_], _ => rfl)
  have U9 := fun_mk (st := s9) l9 b9 e9
  have n9 := U9.binds (ps := p9) (fun _ _ _ _ _ _ us hl => match us, hl with | [_], _ => rfl)
  have U33 := fun_mk (st := s33) l33 b33 e33
  have n33 := U33.binds (ps := p33) (fun _ _ _ _ _ _ us hl => match us, hl with | [_, _, _], _ => rfl)
  have U34 := fun_mk (st := s34) l34 b34 e34
  have n34 := U34.binds (ps := p34) (fun _ _ _ _ _ _ us hl => match us, hl with | [_, _], _ => rfl)
  have U35 := fun_mk (st := s35) l35 b35 e35
  have n35 := U35.binds (ps := p35) (fun _ _ _ _ _ _ us hl => match us, hl with | [_, _], _ => rfl)
  have U36 := fun_mk (st := s36) l36 b36 e36
  have n36 := U36.binds (ps := p36) (fun _ _ _ _ _ _ us hl => match us, hl with | [_, _], _ => rfl)
  have U37 := fun_mk (st := s37) l37 b37 e37
  have n37 := U37.binds (ps := p37) (fun _ _ _ _ _ _ us hl => match us, hl with | [_], _ => rfl)
  have U38 := fun_mk (st := s38) l38 b38 e38
  have n38 := U38.binds (ps := p38) (fun _ _ _ _ _ _ us hl => match us, hl with | [_, _], _ => rfl)
  have U39 := fun_mk (st := s39) l39 b39 e39
  have n39 := U39.binds (ps := p39) (fun _ _ _ _ _ _ us hl => match us, hl with | [_], _ => rfl)
  have U40 := fun_mk (st := s40) l40 b40 e40
  have n40 := U40.binds (ps := p40) (fun _ _ _ _ _ _ us hl => match us, hl with | [_, _], _ => rfl)
  have U41 := fun_mk (st := s41) l41 b41 e41
  have n41 := U41.binds (ps := p41) (fun _ _ _ _ _ _ us hl => match us, hl with | [_, _], _ => rfl)
  have U42 := fun_mk (st := s42) l42 b42 e42
  have n42 := U42.binds (ps := p42) (fun _ _ _ _ _ _ us hl => match us, hl with | [_], _ => rfl)
  have U43 := fun_mk (st := s43) l43 b43 e43
  have n43 := U43.binds (ps := p43) (fun _ _ _ _ _ _ us hl => match us, hl with | [_, _], _ => rfl)
  have U44 := fun_mk (st := s44) l44 b44 e44
  have n44 := U44.binds (ps := p44) (fun _ _ _ _ _ _ us hl => match us, hl with | [_, _], _ => rfl)
  have U45 := fun_mk (st := s45) l45 b45 e45
  have n45 := U45.binds (ps := p45) (fun _ _ _ _ _ _ us hl => match us, hl with | [_, _], _ => rfl)
  have U46 := fun_mk (st := s46) l46 b46 e46
  have n46 := U46.binds (ps := p46) (fun _ _ _ _ _ _ us hl => match us, hl with | [_, _], _ => rfl)
  have U47 := fun_mk (st := s47) l47 b47 e47
  have n47 := U47.binds (ps := p47) (fun _ _ _ _ _ _ us hl => match us, hl with | [_, _], _ => rfl)
  have U48 := fun_mk (st := s48) l48 b48 e48
  have n48 := U48.binds (ps := p48) (fun _ _ _ _ _ _ us hl => match us, hl with | [_, _], _ => rfl)
  have U49 := fun_mk (st := s49) l49 b49 e49
  have n49 := U49.binds (ps := p49) (fun _ _ _ _ _ _ us hl => match us, hl with | [_], _ => rfl)
  have U50 := fun_mk (st := s50) l50 b50 e50
  have n50 := U50.binds (ps := p50) (fun _ _ _ _ _ _ us hl => match us, hl with | [_, _, _], _ => rfl)
  have U51 := fun_mk (st := s51) l51 b51 e51
  have n51 := U51.binds (ps := p51) (fun _ _ _ _ _ _ us hl => match us, hl with | [_, _], _ => rfl)
  have U74 := fun_mk (st := s74) l74 b74 e74
  have n74 := U74.binds (ps := p74) (fun _ _ _ _ _ _ us hl => match us, hl with | [_], _ => rfl)
  have U84 := fun_mk (st := s84) l84 b84 e84
  have n84 := U84.binds (ps := p84) (fun _ _ _ _ _ _ us hl => match us, hl with | [_, _], _ => rfl)
  have U75 := fun_mk (st := s75) l75 b75 e75
  have n75 := U75.binds (ps := p75) (fun _ _ _ _ _ _ us hl => match us, hl with | [_], _ => rfl)
  have U76 := fun_mk (st := s76) l76 b76 e76
  have n76 := U76.binds (ps := p76) (fun _ _ _ _ _ _ us hl => match us, hl with | [_], _ => rfl)
  have U90 := fun_mk (st := s90) l90 b90 e90
  have n90 := U90.binds (ps := p90) (fun _ _ _ _ _ _ us hl => match us, hl with | [_], _ => rfl)
  have U91 := fun_mk (st := s91) l91 b91 e91
  have n91 := U91.binds (ps := p91) (fun _ _ _ _ _ _ us hl => match us, hl with | [_, _, _], _ => rfl)
  have U92 := fun_mk (st := s92) l92 b92 e92
  have n92 := U92.binds (ps := p92) (fun _ _ _ _ _ _ us hl => match us, hl with | [_, _, _], _ => rfl)
  have U11 := fun_mk (st := s11) l11 b11 e11
  have n11 := U11.binds (ps := p11) (fun _ _ _ _ _ _ us hl => match us, hl with | [_, _], _ => rfl)
  have U12 := fun_mk (st := s12) l12 b12 e12
  have n12 := U12.binds (ps := p12) (fun _ _ _ _ _ _ us hl => match us, hl with | [_, _, _, _], _ => rfl)
  have U13 := fun_mk (st := s13) l13 b13 e13
  have n13 := U13.binds (ps := p13) (fun _ _ _ _ _ _ us hl => match us, hl with | [_, _], _ => rfl)
  have U14 := fun_mk (st := s14) l14 b14 e14
  have n14 := U14.binds (ps := p14) (fun _ _ _ _ _ _ us hl => match us, hl with | [_, _], _ => rfl)
  have U15 := fun_mk (st := s15) l15 b15 e15
  have n15 := U15.binds (ps := p15) (fun _ _ _ _ _ _ us hl => match us, hl with | [_, _], _ => rfl)
  have U16 := fun_mk (st := s16) l16 b16 e16
  have n16 := U16.binds (ps := p16) (fun _ _ _ _ _ _ us hl => match us, hl with | [_, _], _ => rfl)
  have U17 := fun_mk (st := s17) l17 b17 e17
  have n17 := U17.binds (ps := p17) (fun _ _ _ _ _ _ us hl => match us, hl with | [_, _], _ => rfl)
  have U18 := fun_mk (st := s18) l18 b18 e18
  have n18 := U18.binds (ps := p18) (fun _ _ _ _ _ _ us hl => match us, hl with | [_, _], _ => rfl)
  have U19 := fun_mk (st := s19) l19 b19 e19
  have n19 := U19.binds (ps := p19) (fun _ _ _ _ _ _ us hl => match us, hl with | [_], _ => rfl)
  have U20 := fun_mk (st := s20) l20 b20 e20
  have n20 := U20.binds (ps := p20) (fun _ _ _ _ _ _ us hl => match us, hl with | [_, _], _ => rfl)
  have U65 := fun_mk (st := s65) l65 b65 e65
  have n65 := U65.binds (ps := p65) (fun _ _ _ _ _ _ us hl => match us, hl with | [_, _], _ => rfl)
  have U66 := fun_mk (st := s66) l66 b66 e66
  have n66 := U66.binds (ps := p66) (fun _ _ _ _ _ _ us hl => match us, hl with | [_, _], _ => rfl)
  have U67 := fun_mk (st := s67) l67 b67 e67
  have n67 := U67.binds (ps := p67) (fun _ _ _ _ _ _ us hl => match us, hl with | [_, _, _], _ => rfl)
  have U68 := fun_mk (st := s68) l68 b68 e68
  have n68 := U68.binds (ps := p68) (fun _ _ _ _ _ _ us hl => match us, hl with | [_, _, _, _, _], _ => rfl)
  have U69 := fun_mk (st := s69) l69 b69 e69
  have n69 := U69.binds (ps := p69) (fun _ _ _ _ _ _ us hl => match us, hl with | [_, _], _ => rfl)
  have U78 := fun_mk (st := s78) l78 b78 e78
  have n78 := U78.binds (ps := p78) (fun _ _ _ _ _ _ us hl => match us, hl with | [_, _], _ => rfl)
  have U79 := fun_mk (st := s79) l79 b79 e79
  have n79 := U79.binds (ps := p79) (fun _ _ _ _ _ _ us hl => match us, hl with | [_, _], _ => rfl)
  have U21 := fun_mk (st := s21) l21 b21 e21
  have n21 := U21.binds (ps := p21) (fun _ _ _ _ _ _ us hl => match us, hl with | [_], _ => rfl)
  have U22 := fun_mk (st := s22) l22 b22 e22
  have n22 := U22.binds (ps := p22) (fun _ _ _ _ _ _ us hl => match us, hl with | [_, _], _ => rfl)
  have U80 := fun_mk (st := s80) l80 b80 e80
  have n80 := U80.binds (ps := p80) (fun _ _ _ _ _ _ us hl => match us, hl with | [_], _ => rfl)
  have U93 := fun_mk (st := s93) l93 b93 e93
  have n93 := U93.binds (ps := p93) (fun _ _ _ _ _ _ us hl => match us, hl with | [_], _ => rfl)
  have U71 := fun_mk (st := s71) l71 b71 e71
  have n71 := U71.binds (ps := p71) (fun _ _ _ _ _ _ us hl => match us, hl with | [_], _ => rfl)
  have U24 := fun_mk (st := s24) l24 b24 e24
  have n24 := U24.binds (ps := p24) (fun _ _ _ _ _ _ us hl => match us, hl with | [_], _ => rfl)
  have U94 := fun_mk (st := s94) l94 b94 e94
  have n94 := U94.binds (ps := p94) (fun _ _ _ _ _ _ us hl => match us, hl with | [_, _, _, _], _ => rfl)
  have U95 := fun_mk (st := s95) l95 b95 e95
  have n95 := U95.binds (ps := p95) (fun _ _ _ _ _ _ us hl => match us, hl with | [_, _, _], _ => rfl)
  have U96 := fun_mk (st := s96) l96 b96 e96
  have n96 := U96.binds (ps := p96) (fun _ _ _ _ _ _ us hl => match us, hl with | [_], _ => rfl)
  refine law_at (fl := 96) (F := F96) (N := N96) (st := s96) (l := true) (t := T) (Q := Q) (Tb := Tb) (ca := ca) X cs (fun p hp => TS _ (hcs p hp).1) (fun p hp => (hcs p hp).2.1) (fun p hp => (hcs p hp).2.2) ?_ l96 b96 dOk c96 rfl rfl rfl (fun s u => .of_eq rfl) (fun base kb nb hTB => ?_) hlaw
  · intro p hp
    simp only [Tb, List.mem_cons, List.not_mem_nil, or_false] at hp
    rcases hp with rfl
    · simp [cs]
  have T0 : Tests mg [("InvalidPlan" : Str), ("InvalidRatio" : Str), ("InvalidNumber" : Str)] [(.ref C1), (.ref C2), (.ref C3)] := tests_of rfl (by
    intro p hp
    simp only [List.zip_cons_cons, List.zip_nil_left, List.zip_nil_right, List.mem_cons, List.not_mem_nil, or_false] at hp
    rcases hp with rfl | rfl | rfl
    · exact .inl ⟨PySem.W.mg_of X G x1, _, rfl⟩
    · exact .inl ⟨PySem.W.mg_of X G x2, _, rfl⟩
    · exact .inl ⟨PySem.W.mg_of X G x3, _, rfl⟩
    )
  have T1 : Tests mg [("InvalidShare" : Str), ("InvalidFacts" : Str), ("InvalidStep" : Str)] [(.ref C4), (.ref C5), (.ref C6)] := tests_of rfl (by
    intro p hp
    simp only [List.zip_cons_cons, List.zip_nil_left, List.zip_nil_right, List.mem_cons, List.not_mem_nil, or_false] at hp
    rcases hp with rfl | rfl | rfl
    · exact .inl ⟨PySem.W.mg_of X G x4, _, rfl⟩
    · exact .inl ⟨PySem.W.mg_of X G x5, _, rfl⟩
    · exact .inl ⟨PySem.W.mg_of X G x6, _, rfl⟩
    )
  have T2 : Tests mg [("InvalidText" : Str), ("NotMade" : Str), ("NothingToUndo" : Str)] [(.ref C7), (.ref C8), (.ref C9)] := tests_of rfl (by
    intro p hp
    simp only [List.zip_cons_cons, List.zip_nil_left, List.zip_nil_right, List.mem_cons, List.not_mem_nil, or_false] at hp
    rcases hp with rfl | rfl | rfl
    · exact .inl ⟨PySem.W.mg_of X G x7, _, rfl⟩
    · exact .inl ⟨PySem.W.mg_of X G x8, _, rfl⟩
    · exact .inl ⟨PySem.W.mg_of X G x9, _, rfl⟩
    )
  have T3 : Tests mg [("ValueError" : Str)] [(.type "ValueError")] := tests_of rfl (by
    intro p hp
    simp only [List.zip_cons_cons, List.zip_nil_left, List.zip_nil_right, List.mem_cons, List.not_mem_nil, or_false] at hp
    rcases hp with rfl
    · exact .inr ⟨PySem.W.mg_none_of X G zv, rfl, rfl⟩
    )
  let NT : NeT mg := ⟨[("InvalidPlan" : Str), ("InvalidRatio" : Str), ("InvalidNumber" : Str)], [("InvalidShare" : Str), ("InvalidFacts" : Str), ("InvalidStep" : Str)], [("InvalidText" : Str), ("NotMade" : Str), ("NothingToUndo" : Str)], [("ValueError" : Str)], [(.ref C1), (.ref C2), (.ref C3)], [(.ref C4), (.ref C5), (.ref C6)], [(.ref C7), (.ref C8), (.ref C9)], [(.type "ValueError")], "plan ratio number share facts step text made undo value", T0, T1, T2, T3⟩
  have W1 : NT.word K C1 ("plan value" : Str) := ⟨⟨h1_1, h2_1, u1, h4_1, h5_1, h6, h7, h8_1⟩, [true, false, false], [false, false, false], [false, false, false], [true], (by show [PySem.W.kitOne K (.ref C1) (.ref C1), PySem.W.kitOne K (.ref C1) (.ref C2), PySem.W.kitOne K (.ref C1) (.ref C3)] = [some true, some false, some false]; rw [k1_0_0, k1_0_1, k1_0_2]), (by show [PySem.W.kitOne K (.ref C1) (.ref C4), PySem.W.kitOne K (.ref C1) (.ref C5), PySem.W.kitOne K (.ref C1) (.ref C6)] = [some false, some false, some false]; rw [k1_1_0, k1_1_1, k1_1_2]), (by show [PySem.W.kitOne K (.ref C1) (.ref C7), PySem.W.kitOne K (.ref C1) (.ref C8), PySem.W.kitOne K (.ref C1) (.ref C9)] = [some false, some false, some false]; rw [k1_2_0, k1_2_1, k1_2_2]), (by show [PySem.W.kitOne K (.ref C1) (.type "ValueError")] = [some true]; rw [k1_3_0]), (by show neRun [true, false, false] [false, false, false] [false, false, false] [true] "plan ratio number share facts step text made undo value" = some "plan value"; decide +kernel)⟩
  have W3 : NT.word K C3 ("number value" : Str) := ⟨⟨h1_3, h2_3, u3, h4_3, h5_3, h6, h7, h8_3⟩, [false, false, true], [false, false, false], [false, false, false], [true], (by show [PySem.W.kitOne K (.ref C3) (.ref C1), PySem.W.kitOne K (.ref C3) (.ref C2), PySem.W.kitOne K (.ref C3) (.ref C3)] = [some false, some false, some true]; rw [k3_0_0, k3_0_1, k3_0_2]), (by show [PySem.W.kitOne K (.ref C3) (.ref C4), PySem.W.kitOne K (.ref C3) (.ref C5), PySem.W.kitOne K (.ref C3) (.ref C6)] = [some false, some false, some false]; rw [k3_1_0, k3_1_1, k3_1_2]), (by show [PySem.W.kitOne K (.ref C3) (.ref C7), PySem.W.kitOne K (.ref C3) (.ref C8), PySem.W.kitOne K (.ref C3) (.ref C9)] = [some false, some false, some false]; rw [k3_2_0, k3_2_1, k3_2_2]), (by show [PySem.W.kitOne K (.ref C3) (.type "ValueError")] = [some true]; rw [k3_3_0]), (by show neRun [false, false, true] [false, false, false] [false, false, false] [true] "plan ratio number share facts step text made undo value" = some "number value"; decide +kernel)⟩
  have hwd : ∀ c d, words c = some d → NT.word K (ca c) d ∧ PySem.W.exmOne K (.ref (ca c)) (.ref C0) = some true := by
    intro c d hc
    have hm := asc_mem hc
    simp only [woL, List.mem_cons, Prod.mk.injEq, List.not_mem_nil, or_false] at hm
    rcases hm with ⟨rfl, rfl⟩ | ⟨rfl, rfl⟩
    · exact ⟨W1, z1⟩
    · exact ⟨W3, z3⟩
  have NE : NeD PySem.Challenge.rw_openfolds_k05_whole_lines_that_are_one.prog w K mg base Tb ca "FoldError" "_law_named_error" words := ⟨NT, C0, f71, _, _, PySem.W.mg_of X G x0, PySem.W.mg_of X G a71, e71, n71,
    fnH_ne (k := 0) (T := NT) (N := N71) l71 b71 sc71 rfl (PySem.W.mg_none_of X G z_15) (PySem.W.mg_none_of X G z_14) (by show neC N71 (defScope s71) [("InvalidPlan" : Str), ("InvalidRatio" : Str), ("InvalidNumber" : Str)] [("InvalidShare" : Str), ("InvalidFacts" : Str), ("InvalidStep" : Str)] [("InvalidText" : Str), ("NotMade" : Str), ("NothingToUndo" : Str)] [("ValueError" : Str)] "plan ratio number share facts step text made undo value" (defBody s71) = true; decide +kernel), hwd⟩
  have ln : ∀ f y, T.ln f = some y → ∃ ga a Ng pg bg sg, LamDef PySem.Challenge.rw_openfolds_k05_whole_lines_that_are_one.prog w K mg base Tb ca y (Q.lam f) ga a Ng pg bg sg := by
    intro f y hf
    have hm := asc_mem hf
    simp only [lnL, List.mem_cons, Prod.mk.injEq, List.not_mem_nil, or_false] at hm
    rcases hm with ⟨rfl, rfl⟩
    · exact ⟨f24, "_law_call", N24, _, _, _, ⟨PySem.W.mg_of X G a24, e24, ⟨_, _, _, _, _, _, _, _, _, _, l24, b24, n24, fun X' q e1 e2 e3 e4 e5 => err_gives NE e1 e2 e3 e4 e5 sc24 (by decide +kernel)⟩, sc24, rfl, by unfold Vis; decide +kernel, by decide, by decide⟩⟩
  have L96 : LamL PySem.Challenge.rw_openfolds_k05_whole_lines_that_are_one.prog w K mg base T Q Tb ca (.ref cL96) ("law" ++ ".<locals>.") := ⟨⟨cL96, PL96, hTB (cL96, PL96) (by simp [cs]), rfl, by simp [Tb], fun p hp e => by
      simp only [Tb, List.mem_cons, List.not_mem_nil, or_false] at hp
      rcases hp with rfl
      · rfl
      ⟩, ln⟩
  refine ⟨tx_all dOk ?_ ?_ ?_ ?_, fun z => L96⟩
  · intro x hx
    simp only [btNames, List.mem_cons, List.not_mem_nil, or_false] at hx
    rcases hx with rfl | rfl | rfl | rfl | rfl | rfl | rfl | rfl | rfl | rfl | rfl | rfl | rfl | rfl | rfl | rfl
    · exact PySem.W.mg_none_of X G z_0
    · exact PySem.W.mg_none_of X G z_1
    · exact PySem.W.mg_none_of X G z_2
    · exact PySem.W.mg_none_of X G z_3
    · exact PySem.W.mg_none_of X G z_4
    · exact PySem.W.mg_none_of X G z_5
    · exact PySem.W.mg_none_of X G z_6
    · exact PySem.W.mg_none_of X G z_7
    · exact PySem.W.mg_none_of X G z_8
    · exact PySem.W.mg_none_of X G z_9
    · exact PySem.W.mg_none_of X G z_10
    · exact PySem.W.mg_none_of X G z_11
    · exact PySem.W.mg_none_of X G z_12
    · exact PySem.W.mg_none_of X G z_13
    · exact PySem.W.mg_none_of X G z_14
    · exact PySem.W.mg_none_of X G z_15
  · intro c y hc
    have hm := asc_mem hc
    simp only [xnL, List.mem_cons, Prod.mk.injEq, List.not_mem_nil, or_false] at hm
    rcases hm with ⟨rfl, rfl⟩ | ⟨rfl, rfl⟩
    · exact ⟨PySem.W.mg_of X G x1, y1, ⟨_, _, _, _, PySem.F.excBase_ValueError, q1⟩, u1, v1⟩
    · exact ⟨PySem.W.mg_of X G x3, y3, ⟨_, _, _, _, PySem.F.excBase_ValueError, q3⟩, u3, v3⟩
  · intro k y d hk hd
    have hm := asc_mem hk
    simp only [glL, List.mem_cons, Prod.mk.injEq, List.not_mem_nil, or_false] at hm
    rcases hm with ⟨rfl, rfl⟩ | ⟨rfl, rfl⟩ | ⟨rfl, rfl⟩ | ⟨rfl, rfl⟩ | ⟨rfl, rfl⟩ | ⟨rfl, rfl⟩ | ⟨rfl, rfl⟩ | ⟨rfl, rfl⟩ | ⟨rfl, rfl⟩
    · have hd2 : some ((.tuple [(.str "upright"), (.str "level"), (.str "up"), (.str "down")]) : PyData) = some d := hd; cases hd2; obtain ⟨v, r1, r2⟩ := dpK_dp _ _ d0; exact ⟨v, _, PySem.W.mg_of X G m0, r1, r2⟩
    · have hd2 : some ((.tuple [(.str "upright"), (.str "level"), (.str "upright"), (.str "level")]) : PyData) = some d := hd; cases hd2; obtain ⟨v, r1, r2⟩ := dpK_dp _ _ d1; exact ⟨v, _, PySem.W.mg_of X G m1, r1, r2⟩
    · have hd2 : some ((.int 6) : PyData) = some d := hd; cases hd2; obtain ⟨v, r1, r2⟩ := dpK_dp _ _ d2; exact ⟨v, _, PySem.W.mg_of X G m2, r1, r2⟩
    · have hd2 : some ((.tuple [(.int 0), (.int 1)]) : PyData) = some d := hd; cases hd2; obtain ⟨v, r1, r2⟩ := dpK_dp _ _ d8; exact ⟨v, _, PySem.W.mg_of X G m8, r1, r2⟩
    · have hd2 : some ((.tuple [(.int 1), (.int 0)]) : PyData) = some d := hd; cases hd2; obtain ⟨v, r1, r2⟩ := dpK_dp _ _ d9; exact ⟨v, _, PySem.W.mg_of X G m9, r1, r2⟩
    · have hd2 : some ((.tuple [(.int 46656), (.int 0)]) : PyData) = some d := hd; cases hd2; obtain ⟨v, r1, r2⟩ := dpK_dp _ _ d4; exact ⟨v, _, PySem.W.mg_of X G m4, r1, r2⟩
    · have hd2 : some ((.tuple [(.int 0), (.int 46656)]) : PyData) = some d := hd; cases hd2; obtain ⟨v, r1, r2⟩ := dpK_dp _ _ d5; exact ⟨v, _, PySem.W.mg_of X G m5, r1, r2⟩
    · have hd2 : some ((.tuple [(.int 0), (.int 0)]) : PyData) = some d := hd; cases hd2; obtain ⟨v, r1, r2⟩ := dpK_dp _ _ d6; exact ⟨v, _, PySem.W.mg_of X G m6, r1, r2⟩
    · have hd2 : some ((.tuple [(.tuple [(.str "upright"), (.tuple [(.int 0), (.int 0)])]), (.tuple [(.str "level"), (.tuple [(.int 0), (.int 0)])]), (.tuple [(.str "upright"), (.tuple [(.int 46656), (.int 0)])]), (.tuple [(.str "level"), (.tuple [(.int 0), (.int 46656)])])]) : PyData) = some d := hd; cases hd2; obtain ⟨v, r1, r2⟩ := dpK_dp _ _ d7; exact ⟨v, _, PySem.W.mg_of X G m7, r1, r2⟩
  · intro f y F hf hF
    have hm := asc_mem hf
    simp only [fnL, List.mem_cons, Prod.mk.injEq, List.not_mem_nil, or_false] at hm
    rcases hm with ⟨rfl, rfl⟩ | ⟨rfl, rfl⟩ | ⟨rfl, rfl⟩ | ⟨rfl, rfl⟩ | ⟨rfl, rfl⟩ | ⟨rfl, rfl⟩ | ⟨rfl, rfl⟩ | ⟨rfl, rfl⟩ | ⟨rfl, rfl⟩ | ⟨rfl, rfl⟩ | ⟨rfl, rfl⟩ | ⟨rfl, rfl⟩ | ⟨rfl, rfl⟩ | ⟨rfl, rfl⟩ | ⟨rfl, rfl⟩ | ⟨rfl, rfl⟩ | ⟨rfl, rfl⟩ | ⟨rfl, rfl⟩ | ⟨rfl, rfl⟩ | ⟨rfl, rfl⟩ | ⟨rfl, rfl⟩ | ⟨rfl, rfl⟩ | ⟨rfl, rfl⟩ | ⟨rfl, rfl⟩ | ⟨rfl, rfl⟩ | ⟨rfl, rfl⟩ | ⟨rfl, rfl⟩ | ⟨rfl, rfl⟩ | ⟨rfl, rfl⟩ | ⟨rfl, rfl⟩ | ⟨rfl, rfl⟩ | ⟨rfl, rfl⟩ | ⟨rfl, rfl⟩ | ⟨rfl, rfl⟩ | ⟨rfl, rfl⟩ | ⟨rfl, rfl⟩ | ⟨rfl, rfl⟩ | ⟨rfl, rfl⟩ | ⟨rfl, rfl⟩ | ⟨rfl, rfl⟩ | ⟨rfl, rfl⟩ | ⟨rfl, rfl⟩ | ⟨rfl, rfl⟩ | ⟨rfl, rfl⟩ | ⟨rfl, rfl⟩ | ⟨rfl, rfl⟩ | ⟨rfl, rfl⟩ | ⟨rfl, rfl⟩ | ⟨rfl, rfl⟩ | ⟨rfl, rfl⟩ | ⟨rfl, rfl⟩ | ⟨rfl, rfl⟩ | ⟨rfl, rfl⟩ | ⟨rfl, rfl⟩ | ⟨rfl, rfl⟩ | ⟨rfl, rfl⟩ | ⟨rfl, rfl⟩ | ⟨rfl, rfl⟩ | ⟨rfl, rfl⟩
    · have hF2 : some F0 = some F := hF; cases hF2; exact ⟨_, s0, N0, p0, false, _, _, _, _, _, _, _, _, _, PySem.W.mg_of X G a0, e0, l0, b0, n0, c0, fun z => by cases z⟩
    · have hF2 : some F1 = some F := hF; cases hF2; exact ⟨_, s1, N1, p1, false, _, _, _, _, _, _, _, _, _, PySem.W.mg_of X G a1, e1, l1, b1, n1, c1, fun z => by cases z⟩
    · have hF2 : some F2 = some F := hF; cases hF2; exact ⟨_, s2, N2, p2, false, _, _, _, _, _, _, _, _, _, PySem.W.mg_of X G a2, e2, l2, b2, n2, c2, fun z => by cases z⟩
    · have hF2 : some F31 = some F := hF; cases hF2; exact ⟨_, s31, N31, p31, false, _, _, _, _, _, _, _, _, _, PySem.W.mg_of X G a31, e31, l31, b31, n31, c31, fun z => by cases z⟩
    · have hF2 : some F5 = some F := hF; cases hF2; exact ⟨_, s5, N5, p5, false, _, _, _, _, _, _, _, _, _, PySem.W.mg_of X G a5, e5, l5, b5, n5, c5, fun z => by cases z⟩
    · have hF2 : some F6 = some F := hF; cases hF2; exact ⟨_, s6, N6, p6, false, _, _, _, _, _, _, _, _, _, PySem.W.mg_of X G a6, e6, l6, b6, n6, c6, fun z => by cases z⟩
    · have hF2 : some F7 = some F := hF; cases hF2; exact ⟨_, s7, N7, p7, false, _, _, _, _, _, _, _, _, _, PySem.W.mg_of X G a7, e7, l7, b7, n7, c7, fun z => by cases z⟩
    · have hF2 : some F8 = some F := hF; cases hF2; exact ⟨_, s8, N8, p8, false, _, _, _, _, _, _, _, _, _, PySem.W.mg_of X G a8, e8, l8, b8, n8, c8, fun z => by cases z⟩
    · have hF2 : some F9 = some F := hF; cases hF2; exact ⟨_, s9, N9, p9, false, _, _, _, _, _, _, _, _, _, PySem.W.mg_of X G a9, e9, l9, b9, n9, c9, fun z => by cases z⟩
    · have hF2 : some F33 = some F := hF; cases hF2; exact ⟨_, s33, N33, p33, false, _, _, _, _, _, _, _, _, _, PySem.W.mg_of X G a33, e33, l33, b33, n33, c33, fun z => by cases z⟩
    · have hF2 : some F34 = some F := hF; cases hF2; exact ⟨_, s34, N34, p34, false, _, _, _, _, _, _, _, _, _, PySem.W.mg_of X G a34, e34, l34, b34, n34, c34, fun z => by cases z⟩
    · have hF2 : some F35 = some F := hF; cases hF2; exact ⟨_, s35, N35, p35, false, _, _, _, _, _, _, _, _, _, PySem.W.mg_of X G a35, e35, l35, b35, n35, c35, fun z => by cases z⟩
    · have hF2 : some F36 = some F := hF; cases hF2; exact ⟨_, s36, N36, p36, false, _, _, _, _, _, _, _, _, _, PySem.W.mg_of X G a36, e36, l36, b36, n36, c36, fun z => by cases z⟩
    · have hF2 : some F37 = some F := hF; cases hF2; exact ⟨_, s37, N37, p37, false, _, _, _, _, _, _, _, _, _, PySem.W.mg_of X G a37, e37, l37, b37, n37, c37, fun z => by cases z⟩
    · have hF2 : some F38 = some F := hF; cases hF2; exact ⟨_, s38, N38, p38, false, _, _, _, _, _, _, _, _, _, PySem.W.mg_of X G a38, e38, l38, b38, n38, c38, fun z => by cases z⟩
    · have hF2 : some F39 = some F := hF; cases hF2; exact ⟨_, s39, N39, p39, false, _, _, _, _, _, _, _, _, _, PySem.W.mg_of X G a39, e39, l39, b39, n39, c39, fun z => by cases z⟩
    · have hF2 : some F40 = some F := hF; cases hF2; exact ⟨_, s40, N40, p40, false, _, _, _, _, _, _, _, _, _, PySem.W.mg_of X G a40, e40, l40, b40, n40, c40, fun z => by cases z⟩
    · have hF2 : some F41 = some F := hF; cases hF2; exact ⟨_, s41, N41, p41, false, _, _, _, _, _, _, _, _, _, PySem.W.mg_of X G a41, e41, l41, b41, n41, c41, fun z => by cases z⟩
    · have hF2 : some F42 = some F := hF; cases hF2; exact ⟨_, s42, N42, p42, false, _, _, _, _, _, _, _, _, _, PySem.W.mg_of X G a42, e42, l42, b42, n42, c42, fun z => by cases z⟩
    · have hF2 : some F43 = some F := hF; cases hF2; exact ⟨_, s43, N43, p43, false, _, _, _, _, _, _, _, _, _, PySem.W.mg_of X G a43, e43, l43, b43, n43, c43, fun z => by cases z⟩
    · have hF2 : some F44 = some F := hF; cases hF2; exact ⟨_, s44, N44, p44, false, _, _, _, _, _, _, _, _, _, PySem.W.mg_of X G a44, e44, l44, b44, n44, c44, fun z => by cases z⟩
    · have hF2 : some F45 = some F := hF; cases hF2; exact ⟨_, s45, N45, p45, false, _, _, _, _, _, _, _, _, _, PySem.W.mg_of X G a45, e45, l45, b45, n45, c45, fun z => by cases z⟩
    · have hF2 : some F46 = some F := hF; cases hF2; exact ⟨_, s46, N46, p46, false, _, _, _, _, _, _, _, _, _, PySem.W.mg_of X G a46, e46, l46, b46, n46, c46, fun z => by cases z⟩
    · have hF2 : some F47 = some F := hF; cases hF2; exact ⟨_, s47, N47, p47, false, _, _, _, _, _, _, _, _, _, PySem.W.mg_of X G a47, e47, l47, b47, n47, c47, fun z => by cases z⟩
    · have hF2 : some F48 = some F := hF; cases hF2; exact ⟨_, s48, N48, p48, false, _, _, _, _, _, _, _, _, _, PySem.W.mg_of X G a48, e48, l48, b48, n48, c48, fun z => by cases z⟩
    · have hF2 : some F49 = some F := hF; cases hF2; exact ⟨_, s49, N49, p49, false, _, _, _, _, _, _, _, _, _, PySem.W.mg_of X G a49, e49, l49, b49, n49, c49, fun z => by cases z⟩
    · have hF2 : some F50 = some F := hF; cases hF2; exact ⟨_, s50, N50, p50, false, _, _, _, _, _, _, _, _, _, PySem.W.mg_of X G a50, e50, l50, b50, n50, c50, fun z => by cases z⟩
    · have hF2 : some F51 = some F := hF; cases hF2; exact ⟨_, s51, N51, p51, false, _, _, _, _, _, _, _, _, _, PySem.W.mg_of X G a51, e51, l51, b51, n51, c51, fun z => by cases z⟩
    · have hF2 : some F74 = some F := hF; cases hF2; exact ⟨_, s74, N74, p74, false, _, _, _, _, _, _, _, _, _, PySem.W.mg_of X G a74, e74, l74, b74, n74, c74, fun z => by cases z⟩
    · have hF2 : some F84 = some F := hF; cases hF2; exact ⟨_, s84, N84, p84, false, _, _, _, _, _, _, _, _, _, PySem.W.mg_of X G a84, e84, l84, b84, n84, c84, fun z => by cases z⟩
    · have hF2 : some F75 = some F := hF; cases hF2; exact ⟨_, s75, N75, p75, false, _, _, _, _, _, _, _, _, _, PySem.W.mg_of X G a75, e75, l75, b75, n75, c75, fun z => by cases z⟩
    · have hF2 : some F76 = some F := hF; cases hF2; exact ⟨_, s76, N76, p76, false, _, _, _, _, _, _, _, _, _, PySem.W.mg_of X G a76, e76, l76, b76, n76, c76, fun z => by cases z⟩
    · have hF2 : some F90 = some F := hF; cases hF2; exact ⟨_, s90, N90, p90, false, _, _, _, _, _, _, _, _, _, PySem.W.mg_of X G a90, e90, l90, b90, n90, c90, fun z => by cases z⟩
    · have hF2 : some F91 = some F := hF; cases hF2; exact ⟨_, s91, N91, p91, false, _, _, _, _, _, _, _, _, _, PySem.W.mg_of X G a91, e91, l91, b91, n91, c91, fun z => by cases z⟩
    · have hF2 : some F92 = some F := hF; cases hF2; exact ⟨_, s92, N92, p92, false, _, _, _, _, _, _, _, _, _, PySem.W.mg_of X G a92, e92, l92, b92, n92, c92, fun z => by cases z⟩
    · have hF2 : some F11 = some F := hF; cases hF2; exact ⟨_, s11, N11, p11, false, _, _, _, _, _, _, _, _, _, PySem.W.mg_of X G a11, e11, l11, b11, n11, c11, fun z => by cases z⟩
    · have hF2 : some F12 = some F := hF; cases hF2; exact ⟨_, s12, N12, p12, false, _, _, _, _, _, _, _, _, _, PySem.W.mg_of X G a12, e12, l12, b12, n12, c12, fun z => by cases z⟩
    · have hF2 : some F13 = some F := hF; cases hF2; exact ⟨_, s13, N13, p13, false, _, _, _, _, _, _, _, _, _, PySem.W.mg_of X G a13, e13, l13, b13, n13, c13, fun z => by cases z⟩
    · have hF2 : some F14 = some F := hF; cases hF2; exact ⟨_, s14, N14, p14, false, _, _, _, _, _, _, _, _, _, PySem.W.mg_of X G a14, e14, l14, b14, n14, c14, fun z => by cases z⟩
    · have hF2 : some F15 = some F := hF; cases hF2; exact ⟨_, s15, N15, p15, false, _, _, _, _, _, _, _, _, _, PySem.W.mg_of X G a15, e15, l15, b15, n15, c15, fun z => by cases z⟩
    · have hF2 : some F16 = some F := hF; cases hF2; exact ⟨_, s16, N16, p16, false, _, _, _, _, _, _, _, _, _, PySem.W.mg_of X G a16, e16, l16, b16, n16, c16, fun z => by cases z⟩
    · have hF2 : some F17 = some F := hF; cases hF2; exact ⟨_, s17, N17, p17, false, _, _, _, _, _, _, _, _, _, PySem.W.mg_of X G a17, e17, l17, b17, n17, c17, fun z => by cases z⟩
    · have hF2 : some F18 = some F := hF; cases hF2; exact ⟨_, s18, N18, p18, false, _, _, _, _, _, _, _, _, _, PySem.W.mg_of X G a18, e18, l18, b18, n18, c18, fun z => by cases z⟩
    · have hF2 : some F19 = some F := hF; cases hF2; exact ⟨_, s19, N19, p19, false, _, _, _, _, _, _, _, _, _, PySem.W.mg_of X G a19, e19, l19, b19, n19, c19, fun z => by cases z⟩
    · have hF2 : some F20 = some F := hF; cases hF2; exact ⟨_, s20, N20, p20, false, _, _, _, _, _, _, _, _, _, PySem.W.mg_of X G a20, e20, l20, b20, n20, c20, fun z => by cases z⟩
    · have hF2 : some F65 = some F := hF; cases hF2; exact ⟨_, s65, N65, p65, false, _, _, _, _, _, _, _, _, _, PySem.W.mg_of X G a65, e65, l65, b65, n65, c65, fun z => by cases z⟩
    · have hF2 : some F66 = some F := hF; cases hF2; exact ⟨_, s66, N66, p66, false, _, _, _, _, _, _, _, _, _, PySem.W.mg_of X G a66, e66, l66, b66, n66, c66, fun z => by cases z⟩
    · have hF2 : some F67 = some F := hF; cases hF2; exact ⟨_, s67, N67, p67, false, _, _, _, _, _, _, _, _, _, PySem.W.mg_of X G a67, e67, l67, b67, n67, c67, fun z => by cases z⟩
    · have hF2 : some F68 = some F := hF; cases hF2; exact ⟨_, s68, N68, p68, false, _, _, _, _, _, _, _, _, _, PySem.W.mg_of X G a68, e68, l68, b68, n68, c68, fun z => by cases z⟩
    · have hF2 : some F69 = some F := hF; cases hF2; exact ⟨_, s69, N69, p69, false, _, _, _, _, _, _, _, _, _, PySem.W.mg_of X G a69, e69, l69, b69, n69, c69, fun z => by cases z⟩
    · have hF2 : some F78 = some F := hF; cases hF2; exact ⟨_, s78, N78, p78, false, _, _, _, _, _, _, _, _, _, PySem.W.mg_of X G a78, e78, l78, b78, n78, c78, fun z => by cases z⟩
    · have hF2 : some F79 = some F := hF; cases hF2; exact ⟨_, s79, N79, p79, false, _, _, _, _, _, _, _, _, _, PySem.W.mg_of X G a79, e79, l79, b79, n79, c79, fun z => by cases z⟩
    · have hF2 : some F21 = some F := hF; cases hF2; exact ⟨_, s21, N21, p21, false, _, _, _, _, _, _, _, _, _, PySem.W.mg_of X G a21, e21, l21, b21, n21, c21, fun z => by cases z⟩
    · have hF2 : some F22 = some F := hF; cases hF2; exact ⟨_, s22, N22, p22, false, _, _, _, _, _, _, _, _, _, PySem.W.mg_of X G a22, e22, l22, b22, n22, c22, fun z => by cases z⟩
    · have hF2 : some F80 = some F := hF; cases hF2; exact ⟨_, s80, N80, p80, false, _, _, _, _, _, _, _, _, _, PySem.W.mg_of X G a80, e80, l80, b80, n80, c80, fun z => by cases z⟩
    · have hF2 : some F93 = some F := hF; cases hF2; exact ⟨_, s93, N93, p93, false, _, _, _, _, _, _, _, _, _, PySem.W.mg_of X G a93, e93, l93, b93, n93, c93, fun z => by cases z⟩
    · have hF2 : some F94 = some F := hF; cases hF2; exact ⟨_, s94, N94, p94, false, _, _, _, _, _, _, _, _, _, PySem.W.mg_of X G a94, e94, l94, b94, n94, c94, fun z => by cases z⟩
    · have hF2 : some F95 = some F := hF; cases hF2; exact ⟨_, s95, N95, p95, false, _, _, _, _, _, _, _, _, _, PySem.W.mg_of X G a95, e95, l95, b95, n95, c95, fun z => by cases z⟩
    · have hF2 : some F96 = some F := hF; cases hF2; exact ⟨_, s96, N96, p96, true, _, _, _, _, _, _, _, _, _, PySem.W.mg_of X G a96, e96, l96, b96, n96, c96, fun z => L96⟩
end Lk
open PySem PySem.W PyProof.Rows
set_option maxRecDepth 100000 in
set_option maxHeartbeats 0 in
theorem PySem.Challenge.cw_openfolds_k05_whole_lines_that_are_one_holds : PySem.Challenge.rw_openfolds_k05_whole_lines_that_are_one.Holds := by
  w_on; o_law; k_head; (case hw => w_witness2)
  k_fill
  refine Fo.law_walk (n := 63) (k := 70) (x := "_law_script") rfl (by decide) rfl ⟨rfl, by decide, by decide⟩ (fun w h Y => PySem.W.km_in_of Y) ?F
  case F =>
    intro w mg fa h Y KX G hmg
    refine' Lk.all_mk KX G hmg (PySem.W.km_tabs_of Y) ?a0 ?l0 ?b0 ?e0 ?a1 ?l1 ?b1 ?e1 ?a2 ?l2 ?b2 ?e2 ?a31 ?l31 ?b31 ?e31 ?a5 ?l5 ?b5 ?e5 ?a6 ?l6 ?b6 ?e6 ?a7 ?l7 ?b7 ?e7 ?a8 ?l8 ?b8 ?e8 ?a9 ?l9 ?b9 ?e9 ?a33 ?l33 ?b33 ?e33 ?a34 ?l34 ?b34 ?e34 ?a35 ?l35 ?b35 ?e35 ?a36 ?l36 ?b36 ?e36 ?a37 ?l37 ?b37 ?e37 ?a38 ?l38 ?b38 ?e38 ?a39 ?l39 ?b39 ?e39 ?a40 ?l40 ?b40 ?e40 ?a41 ?l41 ?b41 ?e41 ?a42 ?l42 ?b42 ?e42 ?a43 ?l43 ?b43 ?e43 ?a44 ?l44 ?b44 ?e44 ?a45 ?l45 ?b45 ?e45 ?a46 ?l46 ?b46 ?e46 ?a47 ?l47 ?b47 ?e47 ?a48 ?l48 ?b48 ?e48 ?a49 ?l49 ?b49 ?e49 ?a50 ?l50 ?b50 ?e50 ?a51 ?l51 ?b51 ?e51 ?a74 ?l74 ?b74 ?e74 ?a84 ?l84 ?b84 ?e84 ?a75 ?l75 ?b75 ?e75 ?a76 ?l76 ?b76 ?e76 ?a90 ?l90 ?b90 ?e90 ?a91 ?l91 ?b91 ?e91 ?a92 ?l92 ?b92 ?e92 ?a11 ?l11 ?b11 ?e11 ?a12 ?l12 ?b12 ?e12 ?a13 ?l13 ?b13 ?e13 ?a14 ?l14 ?b14 ?e14 ?a15 ?l15 ?b15 ?e15 ?a16 ?l16 ?b16 ?e16 ?a17 ?l17 ?b17 ?e17 ?a18 ?l18 ?b18 ?e18 ?a19 ?l19 ?b19 ?e19 ?a20 ?l20 ?b20 ?e20 ?a65 ?l65 ?b65 ?e65 ?a66 ?l66 ?b66 ?e66 ?a67 ?l67 ?b67 ?e67 ?a68 ?l68 ?b68 ?e68 ?a69 ?l69 ?b69 ?e69 ?a78 ?l78 ?b78 ?e78 ?a79 ?l79 ?b79 ?e79 ?a21 ?l21 ?b21 ?e21 ?a22 ?l22 ?b22 ?e22 ?a80 ?l80 ?b80 ?e80 ?a93 ?l93 ?b93 ?e93 ?a71 ?l71 ?b71 ?e71 ?a24 ?l24 ?b24 ?e24 ?a94 ?l94 ?b94 ?e94 ?a95 ?l95 ?b95 ?e95 ?a96 ?l96 ?b96 ?e96 ?hx96 ?hn96 ?x0 ?x1 ?y1 ?q1 ?u1 ?v1 ?x2 ?x3 ?y3 ?q3 ?u3 ?v3 ?x4 ?x5 ?x6 ?x7 ?x8 ?x9 ?h1_1 ?h2_1 ?h4_1 ?h5_1 ?h8_1 ?k1_0_0 ?k1_0_1 ?k1_0_2 ?k1_1_0 ?k1_1_1 ?k1_1_2 ?k1_2_0 ?k1_2_1 ?k1_2_2 ?k1_3_0 ?z1 ?h1_3 ?h2_3 ?h4_3 ?h5_3 ?h8_3 ?k3_0_0 ?k3_0_1 ?k3_0_2 ?k3_1_0 ?k3_1_1 ?k3_1_2 ?k3_2_0 ?k3_2_1 ?k3_2_2 ?k3_3_0 ?z3 ?h6 ?h7 ?zv ?m0 ?d0 ?m1 ?d1 ?m2 ?d2 ?m8 ?d8 ?m9 ?d9 ?m4 ?d4 ?m5 ?d5 ?m6 ?d6 ?m7 ?d7 ?z_0 ?z_1 ?z_2 ?z_3 ?z_4 ?z_5 ?z_6 ?z_7 ?z_8 ?z_9 ?z_10 ?z_11 ?z_12 ?z_13 ?z_14 ?z_15 Lk.hlaw
    (case a0 => k_is)
    (case l0 => k_is)
    (case b0 => k_is)
    (case e0 => k_is)
    (case a1 => k_is)
    (case l1 => k_is)
    (case b1 => k_is)
    (case e1 => k_is)
    (case a2 => k_is)
    (case l2 => k_is)
    (case b2 => k_is)
    (case e2 => k_is)
    (case a31 => k_is)
    (case l31 => k_is)
    (case b31 => k_is)
    (case e31 => k_is)
    (case a5 => k_is)
    (case l5 => k_is)
    (case b5 => k_is)
    (case e5 => k_is)
    (case a6 => k_is)
    (case l6 => k_is)
    (case b6 => k_is)
    (case e6 => k_is)
    (case a7 => k_is)
    (case l7 => k_is)
    (case b7 => k_is)
    (case e7 => k_is)
    (case a8 => k_is)
    (case l8 => k_is)
    (case b8 => k_is)
    (case e8 => k_is)
    (case a9 => k_is)
    (case l9 => k_is)
    (case b9 => k_is)
    (case e9 => k_is)
    (case a33 => k_is)
    (case l33 => k_is)
    (case b33 => k_is)
    (case e33 => k_is)
    (case a34 => k_is)
    (case l34 => k_is)
    (case b34 => k_is)
    (case e34 => k_is)
    (case a35 => k_is)
    (case l35 => k_is)
    (case b35 => k_is)
    (case e35 => k_is)
    (case a36 => k_is)
    (case l36 => k_is)
    (case b36 => k_is)
    (case e36 => k_is)
    (case a37 => k_is)
    (case l37 => k_is)
    (case b37 => k_is)
    (case e37 => k_is)
    (case a38 => k_is)
    (case l38 => k_is)
    (case b38 => k_is)
    (case e38 => k_is)
    (case a39 => k_is)
    (case l39 => k_is)
    (case b39 => k_is)
    (case e39 => k_is)
    (case a40 => k_is)
    (case l40 => k_is)
    (case b40 => k_is)
    (case e40 => k_is)
    (case a41 => k_is)
    (case l41 => k_is)
    (case b41 => k_is)
    (case e41 => k_is)
    (case a42 => k_is)
    (case l42 => k_is)
    (case b42 => k_is)
    (case e42 => k_is)
    (case a43 => k_is)
    (case l43 => k_is)
    (case b43 => k_is)
    (case e43 => k_is)
    (case a44 => k_is)
    (case l44 => k_is)
    (case b44 => k_is)
    (case e44 => k_is)
    (case a45 => k_is)
    (case l45 => k_is)
    (case b45 => k_is)
    (case e45 => k_is)
    (case a46 => k_is)
    (case l46 => k_is)
    (case b46 => k_is)
    (case e46 => k_is)
    (case a47 => k_is)
    (case l47 => k_is)
    (case b47 => k_is)
    (case e47 => k_is)
    (case a48 => k_is)
    (case l48 => k_is)
    (case b48 => k_is)
    (case e48 => k_is)
    (case a49 => k_is)
    (case l49 => k_is)
    (case b49 => k_is)
    (case e49 => k_is)
    (case a50 => k_is)
    (case l50 => k_is)
    (case b50 => k_is)
    (case e50 => k_is)
    (case a51 => k_is)
    (case l51 => k_is)
    (case b51 => k_is)
    (case e51 => k_is)
    (case a74 => k_is)
    (case l74 => k_is)
    (case b74 => k_is)
    (case e74 => k_is)
    (case a84 => k_is)
    (case l84 => k_is)
    (case b84 => k_is)
    (case e84 => k_is)
    (case a75 => k_is)
    (case l75 => k_is)
    (case b75 => k_is)
    (case e75 => k_is)
    (case a76 => k_is)
    (case l76 => k_is)
    (case b76 => k_is)
    (case e76 => k_is)
    (case a90 => k_is)
    (case l90 => k_is)
    (case b90 => k_is)
    (case e90 => k_is)
    (case a91 => k_is)
    (case l91 => k_is)
    (case b91 => k_is)
    (case e91 => k_is)
    (case a92 => k_is)
    (case l92 => k_is)
    (case b92 => k_is)
    (case e92 => k_is)
    (case a11 => k_is)
    (case l11 => k_is)
    (case b11 => k_is)
    (case e11 => k_is)
    (case a12 => k_is)
    (case l12 => k_is)
    (case b12 => k_is)
    (case e12 => k_is)
    (case a13 => k_is)
    (case l13 => k_is)
    (case b13 => k_is)
    (case e13 => k_is)
    (case a14 => k_is)
    (case l14 => k_is)
    (case b14 => k_is)
    (case e14 => k_is)
    (case a15 => k_is)
    (case l15 => k_is)
    (case b15 => k_is)
    (case e15 => k_is)
    (case a16 => k_is)
    (case l16 => k_is)
    (case b16 => k_is)
    (case e16 => k_is)
    (case a17 => k_is)
    (case l17 => k_is)
    (case b17 => k_is)
    (case e17 => k_is)
    (case a18 => k_is)
    (case l18 => k_is)
    (case b18 => k_is)
    (case e18 => k_is)
    (case a19 => k_is)
    (case l19 => k_is)
    (case b19 => k_is)
    (case e19 => k_is)
    (case a20 => k_is)
    (case l20 => k_is)
    (case b20 => k_is)
    (case e20 => k_is)
    (case a65 => k_is)
    (case l65 => k_is)
    (case b65 => k_is)
    (case e65 => k_is)
    (case a66 => k_is)
    (case l66 => k_is)
    (case b66 => k_is)
    (case e66 => k_is)
    (case a67 => k_is)
    (case l67 => k_is)
    (case b67 => k_is)
    (case e67 => k_is)
    (case a68 => k_is)
    (case l68 => k_is)
    (case b68 => k_is)
    (case e68 => k_is)
    (case a69 => k_is)
    (case l69 => k_is)
    (case b69 => k_is)
    (case e69 => k_is)
    (case a78 => k_is)
    (case l78 => k_is)
    (case b78 => k_is)
    (case e78 => k_is)
    (case a79 => k_is)
    (case l79 => k_is)
    (case b79 => k_is)
    (case e79 => k_is)
    (case a21 => k_is)
    (case l21 => k_is)
    (case b21 => k_is)
    (case e21 => k_is)
    (case a22 => k_is)
    (case l22 => k_is)
    (case b22 => k_is)
    (case e22 => k_is)
    (case a80 => k_is)
    (case l80 => k_is)
    (case b80 => k_is)
    (case e80 => k_is)
    (case a93 => k_is)
    (case l93 => k_is)
    (case b93 => k_is)
    (case e93 => k_is)
    (case a71 => k_is)
    (case l71 => k_is)
    (case b71 => k_is)
    (case e71 => k_is)
    (case a24 => k_is)
    (case l24 => k_is)
    (case b24 => k_is)
    (case e24 => k_is)
    (case a94 => k_is)
    (case l94 => k_is)
    (case b94 => k_is)
    (case e94 => k_is)
    (case a95 => k_is)
    (case l95 => k_is)
    (case b95 => k_is)
    (case e95 => k_is)
    (case a96 => k_is)
    (case l96 => k_is)
    (case b96 => k_is)
    (case e96 => k_is)
    (case hx96 => first | exact ⟨.head _, by kernel_rfl⟩ | exact ⟨.tail _ (.head _), by kernel_rfl⟩ | exact ⟨.tail _ (.tail _ (.head _)), by kernel_rfl⟩ | exact ⟨.tail _ (.tail _ (.tail _ (.head _))), by kernel_rfl⟩)
    (case hn96 => kernel_rfl)
    (case x0 => k_is)
    (case x1 => k_is)
    (case y1 => k_is)
    (case q1 => first | k_exc | k_is)
    (case u1 => k_is)
    (case v1 => k_is)
    (case x2 => k_is)
    (case x3 => k_is)
    (case y3 => k_is)
    (case q3 => first | k_exc | k_is)
    (case u3 => k_is)
    (case v3 => k_is)
    (case x4 => k_is)
    (case x5 => k_is)
    (case x6 => k_is)
    (case x7 => k_is)
    (case x8 => k_is)
    (case x9 => k_is)
    (case h1_1 => k_is)
    (case h2_1 => k_is)
    (case h4_1 => k_is)
    (case h5_1 => k_is)
    (case h8_1 => k_is)
    (case k1_0_0 => kernel_rfl)
    (case k1_0_1 => kernel_rfl)
    (case k1_0_2 => kernel_rfl)
    (case k1_1_0 => kernel_rfl)
    (case k1_1_1 => kernel_rfl)
    (case k1_1_2 => kernel_rfl)
    (case k1_2_0 => kernel_rfl)
    (case k1_2_1 => kernel_rfl)
    (case k1_2_2 => kernel_rfl)
    (case k1_3_0 => kernel_rfl)
    (case z1 => kernel_rfl)
    (case h1_3 => k_is)
    (case h2_3 => k_is)
    (case h4_3 => k_is)
    (case h5_3 => k_is)
    (case h8_3 => k_is)
    (case k3_0_0 => kernel_rfl)
    (case k3_0_1 => kernel_rfl)
    (case k3_0_2 => kernel_rfl)
    (case k3_1_0 => kernel_rfl)
    (case k3_1_1 => kernel_rfl)
    (case k3_1_2 => kernel_rfl)
    (case k3_2_0 => kernel_rfl)
    (case k3_2_1 => kernel_rfl)
    (case k3_2_2 => kernel_rfl)
    (case k3_3_0 => kernel_rfl)
    (case z3 => kernel_rfl)
    (case h6 => k_is)
    (case h7 => k_is)
    (case zv => k_is)
    (case m0 => k_is)
    (case d0 => kernel_rfl)
    (case m1 => k_is)
    (case d1 => kernel_rfl)
    (case m2 => k_is)
    (case d2 => kernel_rfl)
    (case m8 => k_is)
    (case d8 => kernel_rfl)
    (case m9 => k_is)
    (case d9 => kernel_rfl)
    (case m4 => k_is)
    (case d4 => kernel_rfl)
    (case m5 => k_is)
    (case d5 => kernel_rfl)
    (case m6 => k_is)
    (case d6 => kernel_rfl)
    (case m7 => k_is)
    (case d7 => kernel_rfl)
    (case z_0 => k_is)
    (case z_1 => k_is)
    (case z_2 => k_is)
    (case z_3 => k_is)
    (case z_4 => k_is)
    (case z_5 => k_is)
    (case z_6 => k_is)
    (case z_7 => k_is)
    (case z_8 => k_is)
    (case z_9 => k_is)
    (case z_10 => k_is)
    (case z_11 => k_is)
    (case z_12 => k_is)
    (case z_13 => k_is)
    (case z_14 => k_is)
    (case z_15 => k_is)

