import PyProof.Rows.All
import Wide.All
import OpenK.AllK
import Wide.FinOn
import HandS.ForMost
import HandS.ForExc
import HandS.Flow
import HandS.Defaults
import HandS.MakeKwOnly
import HandS.TupAny
import HandS.Deep
import HandS.Walk
import HandS.Zip
import HandS.AnyAll
import HandS.IsInst
import HandS.HeadWalk
import HandS.CallRecv
import HandS.GenList
import HandS.Codes
import HandS.HeadHook4
import HandS.NestedK
import HandS.Head0
import HandS.Head1
import HandS.Head2
import HandS.HeadEnd
import PySem.Challenge.RW_twoknowers_k10_programs_keep_what_was_pa
import HandS.Head3
import Lean
section
set_option autoImplicit false
set_option linter.all false
/-! Data as trees, objects by number, and what the program's text does with them. -/
namespace TK
open PySem L2

inductive D where
  | non
  | bl (b : Bool)
  | int (i : Int)
  | str (x : Str)
  | scr (xs : List Int)
  | tup (xs : List D)
  | lv (xs : List D)
  | dv (ks : List Key) (xs : List D)
  | iv (c : Nat) (ns : List Str) (xs : List D)
  | obj (n : Nat)
  | fn (k : Nat)
  deriving Inhabited

/-! ### sameness -/
mutual
def D.beq : D → D → Bool
  | .non, .non => true
  | .bl a, .bl b => decide (a = b)
  | .int a, .int b => decide (a = b)
  | .str a, .str b => decide (a = b)
  | .scr a, .scr b => decide (a = b)
  | .tup a, .tup b => D.beqs a b
  | .lv a, .lv b => D.beqs a b
  | .dv k a, .dv l b => decide (k = l) && D.beqs a b
  | .iv c k a, .iv d l b => decide (c = d) && (decide (k = l) && D.beqs a b)
  | .obj a, .obj b => decide (a = b)
  | .fn a, .fn b => decide (a = b)
  | _, _ => false
def D.beqs : List D → List D → Bool
  | [], [] => true
  | x :: xs, y :: ys => D.beq x y && D.beqs xs ys
  | _, _ => false
end
mutual
theorem D.beq_self : ∀ d : D, D.beq d d = true
  | .non => by simp [D.beq]
  | .bl a => by simp [D.beq]
  | .int a => by simp [D.beq]
  | .str a => by simp [D.beq]
  | .scr a => by simp [D.beq]
  | .tup a => by simp [D.beq, D.beqs_self a]
  | .lv a => by simp [D.beq, D.beqs_self a]
  | .dv k a => by simp [D.beq, D.beqs_self a]
  | .iv c k a => by simp [D.beq, D.beqs_self a]
  | .obj a => by simp [D.beq]
  | .fn a => by simp [D.beq]
theorem D.beqs_self : ∀ l : List D, D.beqs l l = true
  | [] => by simp [D.beqs]
  | x :: xs => by simp [D.beqs, D.beq_self x, D.beqs_self xs]
end
mutual
theorem D.eq_of_beq : ∀ d e : D, D.beq d e = true → d = e
  | .non, e, h => by cases e <;> simp_all [D.beq]
  | .bl a, e, h => by cases e <;> simp_all [D.beq]
  | .int a, e, h => by cases e <;> simp_all [D.beq]
  | .str a, e, h => by cases e <;> simp_all [D.beq]
  | .scr a, e, h => by cases e <;> simp_all [D.beq]
  | .tup a, e, h => by
    cases e <;> simp only [D.beq] at h <;> try cases h
    rw [D.eq_of_beqs a _ h]
  | .lv a, e, h => by
    cases e <;> simp only [D.beq] at h <;> try cases h
    rw [D.eq_of_beqs a _ h]
  | .dv k a, e, h => by
    cases e <;> simp only [D.beq] at h <;> try cases h
    obtain ⟨h1, h2⟩ := Bool.and_eq_true_iff.mp h
    rw [D.eq_of_beqs a _ h2, of_decide_eq_true h1]
  | .iv c k a, e, h => by
    cases e <;> simp only [D.beq] at h <;> try cases h
    obtain ⟨h1, h3⟩ := Bool.and_eq_true_iff.mp h
    obtain ⟨h2, h4⟩ := Bool.and_eq_true_iff.mp h3
    rw [D.eq_of_beqs a _ h4, of_decide_eq_true h1, of_decide_eq_true h2]
  | .obj a, e, h => by cases e <;> simp_all [D.beq]
  | .fn a, e, h => by cases e <;> simp_all [D.beq]
theorem D.eq_of_beqs : ∀ l m : List D, D.beqs l m = true → l = m
  | [], m, h => by cases m <;> simp_all [D.beqs]
  | x :: xs, m, h => by
    cases m with
    | nil => simp [D.beqs] at h
    | cons y ys =>
      simp only [D.beqs] at h
      obtain ⟨h1, h2⟩ := Bool.and_eq_true_iff.mp h
      rw [D.eq_of_beq x y h1, D.eq_of_beqs xs ys h2]
end
instance : DecidableEq D := fun a b => if h : D.beq a b = true then .isTrue (D.eq_of_beq a b h) else .isFalse fun e => h (e ▸ D.beq_self a)
inductive MO where
  | lst (xs : List D)
  | dk (ks : List Key) (xs : List D)
  | dn (ks : List D) (xs : List D)
  | sn (ks : List D)
  | ins (c : Nat) (ns : List Str) (xs : List D)
  deriving Inhabited, DecidableEq

abbrev Sx := List MO
abbrev Vs := List (Option D)

inductive R (a : Type) where
  | ok (x : a) (S : Sx)
  | exc (c : Nat) (v : D) (S : Sx)
  | bad
  deriving Inhabited

def R.bind {a b : Type} (r : R a) (f : a → Sx → R b) : R b := match r with
  | .ok x S => f x S
  | .exc c v S => .exc c v S
  | .bad => .bad
@[simp] theorem R.bind_ok {a b : Type} (x : a) (S : Sx) (f : a → Sx → R b) : (R.ok x S).bind f = f x S := rfl
@[simp] theorem R.bind_exc {a b : Type} (c : Nat) (v : D) (S : Sx) (f : a → Sx → R b) : (R.exc c v S : R a).bind f = .exc c v S := rfl
@[simp] theorem R.bind_bad {a b : Type} (f : a → Sx → R b) : (R.bad : R a).bind f = .bad := rfl
/-- no exception -/
def R.nox {a : Type} : R a → R a
  | .exc _ _ _ => .bad
  | r => r
@[simp] theorem R.nox_ok {a : Type} (x : a) (S : Sx) : (R.ok x S).nox = .ok x S := rfl
@[simp] theorem R.nox_exc {a : Type} (c : Nat) (v : D) (S : Sx) : (R.exc c v S : R a).nox = .bad := rfl
@[simp] theorem R.nox_bad {a : Type} : (R.bad : R a).nox = .bad := rfl

/-! ### data without objects -/
mutual
def D.pure : D → Bool
  | .tup xs => D.pures xs
  | .lv xs => D.pures xs
  | .dv _ xs => D.pures xs
  | .iv _ _ xs => D.pures xs
  | .obj _ => false
  | _ => true
def D.pures : List D → Bool
  | [] => true
  | x :: xs => D.pure x && D.pures xs
end
def MO.pure : MO → Bool
  | .lst xs => D.pures xs
  | .dk _ xs => D.pures xs
  | .dn ks xs => D.pures ks && D.pures xs
  | .sn ks => D.pures ks
  | .ins _ _ xs => D.pures xs
mutual
def toPy : D → Option PyData
  | .non => some .none
  | .bl b => some (.bool b)
  | .int i => some (.int i)
  | .str x => some (.str x)
  | .tup xs => (toPys xs).map .tuple
  | .lv xs => (toPys xs).map .list
  | _ => none
def toPys : List D → Option (List PyData)
  | [] => some []
  | x :: xs => match toPy x, toPys xs with
    | some y, some ys => some (y :: ys)
    | _, _ => none
end
def pyOf (d : D) (S : Sx) : Option PyData := match d with
  | .obj n => (match S[n]? with
    | some (.lst xs) => (toPys xs).map .list
    | _ => none)
  | d => toPy d
/-- a list's items -/
def lstOf (d : D) (S : Sx) : Option (List D) := match d with
  | .lv xs => some xs
  | .obj n => (match S[n]? with
    | some (.lst xs) => some xs
    | _ => none)
  | _ => none
def seqOf (d : D) (S : Sx) : Option (List D) := match d with
  | .tup xs => some xs
  | d => lstOf d S
def truD (d : D) (S : Sx) : Option Bool := match d with
  | .non => some false
  | .bl b => some b
  | .int i => some (i != 0)
  | .str x => if x.length ≤ sizeLine then some ((x.length : Int) != 0) else none
  | d => (seqOf d S).map fun xs => !xs.isEmpty

/-! ### operators -/
inductive Op where | add | sub | mul | mod | fdiv | pow
inductive Cp where | eq | ne | lt | le | gt | ge | is_ | isn | in_ | nin
inductive B1 where | len | tuple | list (tr : Bool) | int | str
def catD (a b : D) (S : Sx) : Option D := match a, b with
  | .int i, .int j => some (.int (i + j))
  | .str x, .str y => if x.length + y.length ≤ sizeLine then some (.str (x ++ y)) else none
  | .tup xs, .tup ys => if xs.length + ys.length ≤ sizeLine then some (.tup (xs ++ ys)) else none
  | a, b => (match lstOf a S, lstOf b S with
    | some xs, some ys => if xs.length + ys.length ≤ sizeLine then some (.lv (xs ++ ys)) else none
    | _, _ => none)
def opD (o : Op) (a b : D) (S : Sx) : Option D := match o with
  | .add => catD a b S
  | .sub => (match a, b with | .int i, .int j => some (.int (i - j)) | _, _ => none)
  | .mul => (match a, b with
    | .int i, .int j => if (-(2 ^ 64) < i ∧ i < 2 ^ 64) ∨ (-(2 ^ 64) < j ∧ j < 2 ^ 64) then some (.int (i * j)) else none
    | _, _ => none)
  | .mod => (match a, b with | .int i, .int j => if 0 < j then some (.int (i % j)) else none | _, _ => none)
  | .fdiv => (match a, b with | .int i, .int j => if 0 < j ∧ j < 1073741824 then some (.int (i / j)) else none | _, _ => none)
  | .pow => (match a, b with | .int i, .int j => if 0 ≤ j ∧ j ≤ 1000000 ∧ i.natAbs < 2 ^ 64 then some (.int (i ^ j.toNat)) else none | _, _ => none)
def negD : D → Option D
  | .int i => some (.int (-i))
  | _ => none
def eqD (a b : D) (S : Sx) : Option Bool := match pyOf a S, pyOf b S with
  | some x, some y => if SeqAt.shaped x && SeqAt.shaped y then some (PyData.eqv x y) else none
  | _, _ => none
def inD (a b : D) (S : Sx) : Option Bool := match b with
  | .obj n => (match S[n]? with
    | some (.lst xs) => inL a xs S
    | some (.dn ks _) => some (decide (a ∈ ks))
    | some (.sn ks) => some (decide (a ∈ ks))
    | _ => none)
  | .tup xs => inL a xs S
  | .lv xs => inL a xs S
  | _ => none
where inL (a : D) (xs : List D) (S : Sx) : Option Bool := match pyOf a S, toPys xs with
  | some x, some ys => if SeqAt.shaped x && SeqAt.shaped (.list ys) then some (ys.any fun y => PyData.eqv y x) else none
  | _, _ => none
def cmpD (o : Cp) (a b : D) (S : Sx) : Option Bool := match o with
  | .eq => eqD a b S
  | .ne => (eqD a b S).map (!·)
  | .lt => (match a, b with | .int i, .int j => some (decide (i < j)) | _, _ => none)
  | .le => (match a, b with | .int i, .int j => some (decide (i ≤ j)) | _, _ => none)
  | .gt => (match a, b with | .int i, .int j => some (decide (j < i)) | _, _ => none)
  | .ge => (match a, b with | .int i, .int j => some (decide (j ≤ i)) | _, _ => none)
  | .is_ => (match b with | .non => some (decide (a = .non)) | _ => none)
  | .isn => (match b with | .non => some (!decide (a = .non)) | _ => none)
  | .in_ => inD a b S
  | .nin => (inD a b S).map (!·)
def keyD : D → Option Key
  | .int i => some (.inl i)
  | .str x => some (.inr x)
  | _ => none
def lookK : List Key → List D → Key → Option D
  | k :: ks, x :: xs, q => if k = q then some x else lookK ks xs q
  | _, _, _ => none
def ixD (a i : D) (S : Sx) : Option D := match i with
  | .int i => (match a with
    | .str z => if z.length ≤ sizeLine then (atI z.cps.toList i).map fun c => .str ⟨#[c]⟩ else none
    | a => (seqOf a S).bind fun xs => atI xs i)
  | _ => none
def dgetD (a i : D) (S : Sx) : Option D := match a with
  | .dv ks xs => (keyD i).bind (lookK ks xs)
  | .obj n => (match S[n]? with
    | some (.dk ks xs) => (keyD i).bind (lookK ks xs)
    | _ => none)
  | _ => none
def cutD (xs : List D) (lo hi : Option Int) : List D := (xs.drop (HT.sIx xs.length 0 lo)).take (HT.sIx xs.length xs.length hi - HT.sIx xs.length 0 lo)
def slcD (a : D) (lo hi : Option Int) (S : Sx) : Option D := match a with
  | .tup xs => some (.tup (cutD xs lo hi))
  | a => (lstOf a S).map fun xs => .lv (cutD xs lo hi)
def lookN : List Str → List D → Str → Option D
  | n :: ns, d :: ds, x => if n = x then some d else lookN ns ds x
  | _, _, _ => none
def fldD (c : Nat) (a : D) (x : Str) (S : Sx) : Option D := match a with
  | .iv c' ns xs => if c' = c then lookN ns xs x else none
  | .obj n => (match S[n]? with
    | some (.ins c' ns xs) => if c' = c then lookN ns xs x else none
    | _ => none)
  | _ => none
/-- a new list, by number or as it stands -/
def newL (tr : Bool) (xs : List D) (S : Sx) : R D := if xs.length ≤ sizeLine then (if tr then .ok (.obj S.length) (S ++ [.lst xs]) else .ok (.lv xs) S) else .bad
def b1D (f : B1) (a : D) (S : Sx) : R D := match f with
  | .len => (match a with
    | .str z => if z.length ≤ sizeLine then .ok (.int z.length) S else .bad
    | a => (match seqOf a S with
      | some xs => .ok (.int xs.length) S
      | none => .bad))
  | .tuple => (match seqOf a S with
    | some xs => .ok (.tup xs) S
    | none => .bad)
  | .list tr => (match a with
    | .scr xs => newL tr (xs.map .int) S
    | a => (match seqOf a S with
      | some xs => newL tr xs S
      | none => .bad))
  | .int => (match a with
    | .int i => .ok (.int i) S
    | .bl b => .ok (.int (if b then 1 else 0)) S
    | .str x => (match PySem.intText? x with
      | some n => if x.length ≤ 640 then .ok (.int n) S else .bad
      | none => .bad)
    | _ => .bad)
  | .str => (match a with
    | .int n => if n.natAbs.log2 < 1920 then .ok (.str (toString n : String)) S else .bad
    | _ => .bad)
def lift {a : Type} (o : Option a) (S : Sx) : R a := match o with
  | some x => .ok x S
  | none => .bad
@[simp] theorem lift_some {a : Type} (x : a) (S : Sx) : lift (some x) S = .ok x S := rfl
@[simp] theorem lift_none {a : Type} (S : Sx) : lift (none : Option a) S = .bad := rfl
end TK
end
section
set_option autoImplicit false
set_option linter.all false
namespace TK
open PySem L2

/-! ### what is written, and what it does -/
inductive Tg where
  | nm (i : Nat)
  | tp (ts : List Tg)
mutual
def asg : Tg → D → Vs → Option Vs
  | .nm i, d, s => some (s.set i (some d))
  | .tp ts, .tup ds, s => asgs ts ds s
  | _, _, _ => none
def asgs : List Tg → List D → Vs → Option Vs
  | [], [], s => some s
  | t :: ts, d :: ds, s => match asg t d s with
    | some s' => asgs ts ds s'
    | none => none
  | _, _, _ => none
end
mutual
def Tg.slots : Tg → List Nat
  | .nm i => [i]
  | .tp ts => Tg.slotss ts
def Tg.slotss : List Tg → List Nat
  | [] => []
  | t :: ts => Tg.slots t ++ Tg.slotss ts
end
def wipeV (s : Vs) : List Nat → Vs
  | [] => s
  | v :: vs => (wipeV s vs).set v none

mutual
inductive E where
  | v (i : Nat)
  | c (d : D)
  | g (j : Nat)
  | bin (o : Op) (a b : E)
  | neg (a : E)
  | not (a : E)
  | and (es : Es)
  | or (es : Es)
  | cmp (o : Cp) (a b : E)
  | chain (o p : Cp) (a b c : E)
  | ife (t a b : E)
  | sub (a i : E)
  | dget (a i : E)
  | slc (a : E) (lo hi : Eo)
  | tup (es : Es)
  | lst (tr : Bool) (es : Es)
  | dct (tr : Bool) (ks : List Key) (es : Es)
  | b1 (f : B1) (a : E)
  | mm (mx : Bool) (a b : E)
  | isi (t : String) (a : E)
  | fld (c : Nat) (a : E) (x : Str)
  | call (k m : Nat) (es : Es)
  | new (c k m : Nat) (es : Es)
  | newK (c k m : Nat) (kw : List Str) (dfl : List D) (es : Es)
  | mt (c k m : Nat) (a : E) (x : Str) (es : Es)
  | app (a b : E)
  | ext (a b : E)
  | pop (a : E)
  | popi (a i : E)
  | lc (tr : Bool) (tg : Tg) (it : It) (cond : Eo) (elt : E) (vs : List Nat)
  | all (tg : Tg) (it : It) (elt : E) (vs : List Nat)
inductive Es where
  | nil
  | cons (e : E) (es : Es)
inductive Eo where
  | none
  | some (e : E)
inductive It where
  | e (a : E)
  | rng (lo : Eo) (a : E)
  | enum (a : E)
  | zip (a b : E)
end

structure Den where
  val : Vs → Sx → R D
  tst : Vs → Sx → R Bool
structure Dens where
  vals : Vs → Sx → R (List D)
  last : Bool
  andV : Vs → Sx → R D
  orV : Vs → Sx → R D
  andT : Vs → Sx → R Bool
  orT : Vs → Sx → R Bool
/-- an optional part -/
abbrev Deno := Vs → Sx → R (Option Int)
/-- what is walked: its items, and whether they stand still -/
abbrev Deni := Vs → Sx → R (List D × (Sx → Bool))

def tstOf (val : Vs → Sx → R D) : Vs → Sx → R Bool := fun s S => (val s S).bind fun d S => lift (truD d S) S
def mk (val : Vs → Sx → R D) : Den := ⟨val, tstOf val⟩
/-- a test's answer as a value too -/
def mkB (t : Vs → Sx → R Bool) : Den := ⟨fun s S => (t s S).bind fun b S => .ok (.bl b) S, t⟩

/-- calls: of the k-th def -/
abbrev Gm := Nat → List D → Sx → R D

/-- what is left of a call: m = 0: as it is; 1: a value; 2: a value or a new object as a value; 3: a new object -/
def wrp (m : Nat) (S : Sx) (r : R D) : R D := match m, r with
  | 0, r => r
  | 1, .ok d S' => if S'.take S.length = S ∧ d.pure = true then .ok d S else .bad
  | 2, .ok (.obj k) S' => if S'.take S.length = S ∧ S.length ≤ k then (match S'[k]? with
      | some (.lst ds) => if D.pures ds = true then .ok (.lv ds) S else .bad
      | some (.dk ks ds) => if D.pures ds = true then .ok (.dv ks ds) S else .bad
      | some (.ins c ns ds) => if D.pures ds = true then .ok (.iv c ns ds) S else .bad
      | _ => .bad) else .bad
  | 2, .ok d S' => if S'.take S.length = S ∧ d.pure = true then .ok d S else .bad
  | 3, .ok (.obj k) S' => if S'.take S.length = S ∧ S.length ≤ k then (match S'[k]? with
      | some o => if o.pure = true then .ok (.obj S.length) (S ++ [o]) else .bad
      | none => .bad) else .bad
  | 3, .ok d S' => if S'.take S.length = S ∧ d.pure = true then .ok d S else .bad
  | _, .exc c v S' => if S'.take S.length = S ∧ v.pure = true then .exc c v S else .bad
  | _, _ => .bad

/-- a new instance, then __init__ -/
def newD (c : Nat) (g : List D → Sx → R D) (xs : List D) (S : Sx) : R D := (g (.obj S.length :: xs) (S ++ [.ins c [] []])).bind fun d S' => if d = .non then .ok (.obj S.length) S' else .bad
/-- an instance of class c that has no own x -/
def mtD (c : Nat) (x : Str) (d : D) (S : Sx) : Option Unit := match d with
  | .obj n => (match S[n]? with
    | some (.ins c' ns _) => if c' = c ∧ x ∉ ns then some () else none
    | _ => none)
  | .iv c' ns _ => if c' = c ∧ x ∉ ns then some () else none
  | _ => none
def setObj (S : Sx) (n : Nat) (o : MO) : Sx := S.set n o
def appD (a b : D) (S : Sx) : R D := match a with
  | .obj n => (match S[n]? with
    | some (.lst xs) => if xs.length < sizeLine then .ok .non (S.set n (.lst (xs ++ [b]))) else .bad
    | _ => .bad)
  | _ => .bad
def extD (a b : D) (S : Sx) : R D := match a with
  | .obj n => (match S[n]?, lstOf b S with
    | some (.lst xs), some ys => if xs.length + ys.length ≤ sizeLine then .ok .non (S.set n (.lst (xs ++ ys))) else .bad
    | _, _ => .bad)
  | _ => .bad
def popD (a : D) (S : Sx) : R D := match a with
  | .obj n => (match S[n]? with
    | some (.lst xs) => (match xs[xs.length - 1]? with
      | some d => .ok d (S.set n (.lst xs.dropLast))
      | none => .bad)
    | _ => .bad)
  | _ => .bad
def popiD (a i : D) (S : Sx) : R D := match a, i with
  | .obj n, .int i => (match S[n]? with
    | some (.lst xs) => if -(2 ^ 63) ≤ i ∧ i < 2 ^ 63 then (match seqIndex? i xs.length with
      | some k => (match xs[k]? with
        | some d => .ok d (S.set n (.lst (xs.eraseIdx k)))
        | none => .bad)
      | none => .bad) else .bad
    | _ => .bad)
  | _, _ => .bad
/-- o[i] = v -/
def putKD : List Key → List D → Key → D → List Key × List D
  | k :: ks, x :: xs, q, d => if k = q then (k :: ks, d :: xs) else ((k :: (putKD ks xs q d).1), (x :: (putKD ks xs q d).2))
  | _, _, q, d => ([q], [d])
def setD (a i v : D) (S : Sx) : Option Sx := match a, i with
  | .obj n, .int i => (match S[n]? with
    | some (.lst xs) => (ixN xs.length i).map fun j => S.set n (.lst (xs.set j v))
    | _ => none)
  | _, _ => none
def dputD (a i v : D) (S : Sx) : Option Sx := match a with
  | .obj n => (match S[n]? with
    | some (.dk ks xs) => (keyD i).bind fun q => if ks.length < sizeLine then some (S.set n (.dk (putKD ks xs q v).1 (putKD ks xs q v).2)) else none
    | _ => none)
  | _ => none
def putN : List Str → List D → Str → D → List Str × List D
  | n :: ns, x :: xs, q, d => if n = q then (n :: ns, d :: xs) else ((n :: (putN ns xs q d).1), (x :: (putN ns xs q d).2))
  | _, _, q, d => ([q], [d])
def setF (c : Nat) (a : D) (x : Str) (v : D) (S : Sx) : Option Sx := match a with
  | .obj n => (match S[n]? with
    | some (.ins c' ns xs) => if c' = c ∧ ns.length < 1000 then some (S.set n (.ins c (putN ns xs x v).1 (putN ns xs x v).2)) else none
    | _ => none)
  | _ => none
def mmD (mx : Bool) (a b : D) : Option D := match a, b with
  | .int i, .int j => some (.int (if mx then (if j > i then j else i) else (if j < i then j else i)))
  | _, _ => none
/-- the name of a value's built-in class -/
def tyN (a : D) (S : Sx) : Option String := match a with
  | .non => some "NoneType"
  | .bl _ => some "bool"
  | .int _ => some "int"
  | .str _ => some "str"
  | .tup _ => some "tuple"
  | .lv _ => some "list"
  | .obj n => (match S[n]? with
    | some (.lst _) => some "list"
    | _ => none)
  | _ => none
def isiD (t : String) (a : D) (S : Sx) : Option Bool := (tyN a S).bind fun n => kitB n t

def lcL (tg : Tg) (cond : Vs → Sx → R Bool) (elt : Vs → Sx → R D) (still : Sx → Bool) (sw : Vs) : List D → List D → Sx → R (List D)
  | [], acc, S => if still S = true then .ok acc S else .bad
  | d :: ds, acc, S => if still S = true then (match asg tg d sw with
    | some s1 => (cond s1 S).bind fun b S1 => if b = true then (elt s1 S1).bind fun y S2 => if acc.length < sizeLine then lcL tg cond elt still sw ds (acc ++ [y]) S2 else .bad
      else lcL tg cond elt still sw ds acc S1
    | none => .bad) else .bad
def allL (tg : Tg) (elt : Vs → Sx → R D) (still : Sx → Bool) (sw : Vs) : List D → Sx → R Bool
  | [], S => if still S = true then .ok true S else .bad
  | d :: ds, S => if still S = true then (match asg tg d sw with
    | some s1 => (elt s1 S).bind fun y S1 => (match y with
      | .bl b => if b = true then allL tg elt still sw ds S1 else .ok false S1
      | _ => .bad)
    | none => .bad) else .bad
def stillOf (d : D) (xs : List D) : Sx → Bool := match d with
  | .obj n => fun S => decide (S[n]? = some (.lst xs))
  | _ => fun _ => true
def rngL (a b : Int) : List D := (List.range (b - a).toNat).map fun (i : Nat) => D.int (a + (i : Int))
def enumL (xs : List D) : List D := xs.zipIdx.map fun p => D.tup [.int (p.2 : Nat), p.1]
def zipL (xs ys : List D) : List D := (xs.zip ys).map fun p => D.tup [p.1, p.2]
def intD : D → Option Int
  | .int i => some i
  | _ => none
def keepFalse : Vs → Sx → R D := fun _ _ => .bad

section
variable (gc : Nat → D) (G : Gm)
mutual
def ev : E → Den
  | .v i => mk fun s S => lift (s.getD i none) S
  | .c d => mk fun _ S => .ok d S
  | .g j => mk fun _ S => .ok (gc j) S
  | .bin o a b => mk fun s S => ((ev a).val s S).bind fun x S => ((ev b).val s S).bind fun y S => lift (opD o x y S) S
  | .neg a => mk fun s S => ((ev a).val s S).bind fun x S => lift (negD x) S
  | .not a => ⟨fun s S => ((ev a).val s S).bind fun x S => (lift (truD x S) S).bind fun b S => .ok (.bl (!b)) S, fun s S => ((ev a).tst s S).bind fun b S => .ok (!b) S⟩
  | .and es => ⟨(evs es).andV, (evs es).andT⟩
  | .or es => ⟨(evs es).orV, (evs es).orT⟩
  | .cmp o a b => mkB fun s S => ((ev a).val s S).bind fun x S => ((ev b).val s S).bind fun y S => lift (cmpD o x y S) S
  | .chain o p a b c => mkB fun s S => ((ev a).val s S).bind fun x S => ((ev b).val s S).bind fun y S => (lift (cmpD o x y S) S).bind fun t S =>
      if t = true then ((ev c).val s S).bind fun z S => lift (cmpD p y z S) S else .ok false S
  | .ife t a b => ⟨fun s S => ((ev t).tst s S).bind fun k S => if k = true then (ev a).val s S else (ev b).val s S, fun _ _ => .bad⟩
  | .sub a i => mk fun s S => ((ev a).val s S).bind fun x S => ((ev i).val s S).bind fun y S => lift (ixD x y S) S
  | .dget a i => mk fun s S => ((ev a).val s S).bind fun x S => ((ev i).val s S).bind fun y S => lift (dgetD x y S) S
  | .slc a lo hi => mk fun s S => ((ev a).val s S).bind fun x S => ((evo lo) s S).bind fun l S => ((evo hi) s S).bind fun h S => lift (slcD x l h S) S
  | .tup es => mk fun s S => ((evs es).vals s S).bind fun xs S => if xs.length ≤ sizeLine then .ok (.tup xs) S else .bad
  | .lst tr es => mk fun s S => ((evs es).vals s S).bind fun xs S => newL tr xs S
  | .dct tr ks es => mk fun s S => ((evs es).vals s S).bind fun xs S => if xs.length = ks.length ∧ ks.length ≤ 15 ∧ ks.Nodup then (if tr = true then .ok (.obj S.length) (S ++ [.dk ks xs]) else .ok (.dv ks xs) S) else .bad
  | .b1 f a => mk fun s S => ((ev a).val s S).bind fun x S => b1D f x S
  | .mm m a b => mk fun s S => ((ev a).val s S).bind fun x S => ((ev b).val s S).bind fun y S => lift (mmD m x y) S
  | .isi t a => mk fun s S => ((ev a).val s S).bind fun x S => lift ((isiD t x S).map .bl) S
  | .fld c a x => mk fun s S => ((ev a).val s S).bind fun d S => lift (fldD c d x S) S
  | .call k m es => mk fun s S => ((evs es).vals s S).bind fun xs S => wrp m S (G k xs S)
  | .new c k m es => mk fun s S => ((evs es).vals s S).bind fun xs S => wrp m S (newD c (G k) xs S)
  | .newK c k m kw dfl es => mk fun s S => ((evs es).vals s S).bind fun xs S => if xs.length = kw.length then wrp m S (newD c (G k) (xs ++ dfl) S) else .bad
  | .mt c k m a x es => mk fun s S => ((ev a).val s S).bind fun d S => (lift (mtD c x d S) S).bind fun _ S => ((evs es).vals s S).bind fun xs S => wrp m S (G k (d :: xs) S)
  | .app a b => mk fun s S => ((ev a).val s S).bind fun x S => if (lstOf x S).isSome = true then ((ev b).val s S).bind fun y S => appD x y S else .bad
  | .ext a b => mk fun s S => ((ev a).val s S).bind fun x S => if (lstOf x S).isSome = true then ((ev b).val s S).bind fun y S => extD x y S else .bad
  | .pop a => mk fun s S => ((ev a).val s S).bind fun x S => popD x S
  | .popi a i => mk fun s S => ((ev a).val s S).bind fun x S => if (lstOf x S).isSome = true then ((ev i).val s S).bind fun y S => popiD x y S else .bad
  | .lc tr tg it cond elt vs => mk fun s S => ((evi it) s S).bind fun xs S => (lcL tg (evc cond) (ev elt).val xs.2 (wipeV s vs) xs.1 [] S).nox.bind fun ys S => newL tr ys S
  | .all tg it elt vs => mk fun s S => ((evi it) s S).bind fun xs S => (allL tg (ev elt).val xs.2 (wipeV s vs) xs.1 S).nox.bind fun b S => .ok (.bl b) S
def evs : Es → Dens
  | .nil => ⟨fun _ S => .ok [] S, true, keepFalse, keepFalse, fun _ S => .ok true S, fun _ S => .ok false S⟩
  | .cons e es =>
    ⟨fun s S => ((ev e).val s S).bind fun x S => ((evs es).vals s S).bind fun xs S => .ok (x :: xs) S, false,
     fun s S => if (evs es).last = true then (ev e).val s S else ((ev e).val s S).bind fun x S => (lift (truD x S) S).bind fun b S => if b = true then (evs es).andV s S else .ok x S,
     fun s S => if (evs es).last = true then (ev e).val s S else ((ev e).val s S).bind fun x S => (lift (truD x S) S).bind fun b S => if b = true then .ok x S else (evs es).orV s S,
     fun s S => ((ev e).tst s S).bind fun b S => if b = true then (evs es).andT s S else .ok false S,
     fun s S => ((ev e).tst s S).bind fun b S => if b = true then .ok true S else (evs es).orT s S⟩
def evo : Eo → Deno
  | .none => fun _ S => .ok none S
  | .some e => fun s S => ((ev e).val s S).bind fun d S => (lift (intD d) S).bind fun i S => .ok (some i) S
def evc : Eo → Vs → Sx → R Bool
  | .none => fun _ S => .ok true S
  | .some e => (ev e).tst
def evi : It → Deni
  | .e a => fun s S => ((ev a).val s S).bind fun d S => (match seqOf d S with
      | some xs => .ok (xs, stillOf d xs) S
      | none => .bad)
  | .rng lo a => fun s S => ((evo lo) s S).bind fun l S => ((ev a).val s S).bind fun h S => (lift (intD h) S).bind fun h S =>
      if (-(2 ^ 62) ≤ l.getD 0 ∧ l.getD 0 < 2 ^ 62) ∧ (-(2 ^ 62) ≤ h ∧ h < 2 ^ 62) then .ok (rngL (l.getD 0) h, fun _ => true) S else .bad
  | .enum a => fun s S => ((ev a).val s S).bind fun d S => (match seqOf d S with
      | some xs => .ok (enumL xs, stillOf d xs) S
      | none => .bad)
  | .zip a b => fun s S => ((ev a).val s S).bind fun d S => ((ev b).val s S).bind fun e S => (match d, e with
      | .tup xs, .tup ys => .ok (zipL xs ys, fun _ => true) S
      | d, e => (match lstOf d S, lstOf e S with
        | some xs, some ys => .ok (zipL xs ys, fun S => stillOf d xs S && stillOf e ys S) S
        | _, _ => .bad))
end
end

/-! ### statements -/
inductive Fl where
  | nx (s : Vs)
  | rt (d : D)
  | bk (s : Vs)
  | ct (s : Vs)
mutual
inductive Sm where
  | set (i : Nat) (e : E)
  | unp (tg : Tg) (e : E)
  | seti (a i e : E)
  | dput (a i e : E)
  | setf (c : Nat) (a : E) (x : Str) (e : E)
  | aug (i : Nat) (e : E)
  | augf (c : Nat) (a : E) (x : Str) (e : E)
  | ite (t : E) (a b : Sms)
  | for_ (tg : Tg) (it : It) (b : Sms)
  | whl (n : Nat) (t : E) (b : Sms)
  | ret (e : E)
  | retN
  | ex (e : E)
  | brk
  | pass
  | raise_ (c k : Nat) (e : E)
  | try_ (c i : Nat) (b h : Sms)
  | never
inductive Sms where
  | nil
  | cons (s : Sm) (r : Sms)
end
def whlL (t : Vs → Sx → R Bool) (b : Vs → Sx → R Fl) : Nat → Vs → Sx → R Fl
  | 0, _, _ => .bad
  | n + 1, s, S => (t s S).bind fun k S => if k = true then (b s S).bind fun f S => (match f with
      | .nx s' => whlL t b n s' S
      | .ct s' => whlL t b n s' S
      | .bk s' => .ok (.nx s') S
      | .rt d => .ok (.rt d) S) else .ok (.nx s) S
def forL (tg : Tg) (still : Sx → Bool) (b : Vs → Sx → R Fl) : List D → Vs → Sx → R Fl
  | [], s, S => if still S = true then .ok (.nx s) S else .bad
  | d :: ds, s, S => if still S = true then (match asg tg d s with
    | some s1 => (b s1 S).bind fun f S => (match f with
      | .nx s' => forL tg still b ds s' S
      | .ct s' => forL tg still b ds s' S
      | .bk s' => .ok (.nx s') S
      | .rt d => .ok (.rt d) S)
    | none => .bad) else .bad
section
variable (gc : Nat → D) (G : Gm)
mutual
def es : Sm → Vs → Sx → R Fl
  | .set i e, s, S => ((ev gc G e).val s S).bind fun d S => .ok (.nx (s.set i (some d))) S
  | .unp tg e, s, S => ((ev gc G e).val s S).bind fun d S => (lift (asg tg d s) S).bind fun s' S => .ok (.nx s') S
  | .seti a i e, s, S => ((ev gc G e).val s S).bind fun d S => ((ev gc G a).val s S).bind fun x S => ((ev gc G i).val s S).bind fun y S => (match setD x y d S with
      | some S' => .ok (.nx s) S'
      | none => .bad)
  | .dput a i e, s, S => ((ev gc G e).val s S).bind fun d S => ((ev gc G a).val s S).bind fun x S => ((ev gc G i).val s S).bind fun y S => (match dputD x y d S with
      | some S' => .ok (.nx s) S'
      | none => .bad)
  | .setf c a x e, s, S => ((ev gc G e).val s S).bind fun d S => ((ev gc G a).val s S).bind fun o S => (match setF c o x d S with
      | some S' => .ok (.nx s) S'
      | none => .bad)
  | .aug i e, s, S => (match s.getD i none with
      | some (.int x) => ((ev gc G e).val s S).bind fun d S => (match d with
        | .int y => .ok (.nx (s.set i (some (.int (x + y))))) S
        | _ => .bad)
      | _ => .bad)
  | .augf c a x e, s, S => ((ev gc G a).val s S).bind fun o S => (lift (fldD c o x S) S).bind fun d S => (match d with
      | .int p => ((ev gc G e).val s S).bind fun d S => (match d with
        | .int q => (match setF c o x (.int (p + q)) S with
          | some S' => .ok (.nx s) S'
          | none => .bad)
        | _ => .bad)
      | _ => .bad)
  | .ite t a b, s, S => ((ev gc G t).tst s S).bind fun k S => if k = true then ess a s S else ess b s S
  | .for_ tg it b, s, S => ((evi gc G it) s S).bind fun xs S => forL tg xs.2 (ess b) xs.1 s S
  | .whl n t b, s, S => whlL (ev gc G t).tst (ess b) n s S
  | .ret e, s, S => ((ev gc G e).val s S).bind fun d S => .ok (.rt d) S
  | .retN, _, S => .ok (.rt .non) S
  | .ex e, s, S => ((ev gc G e).val s S).bind fun _ S => .ok (.nx s) S
  | .brk, s, S => .ok (.bk s) S
  | .pass, s, S => .ok (.nx s) S
  | .raise_ c _ e, s, S => ((ev gc G e).val s S).bind fun d S => .exc c d S
  | .try_ _ _ b _, s, S => (match ess b s S with
      | .ok f S => .ok f S
      | _ => .bad)
  | .never, _, _ => .bad
def ess : Sms → Vs → Sx → R Fl
  | .nil, s, S => .ok (.nx s) S
  | .cons a r, s, S => (es a s S).bind fun f S => (match f with
      | .nx s' => ess r s' S
      | f => .ok f S)
end
end
/-- a def's body on its arguments -/
def startV (n : Nat) (xs : List D) : Vs := xs.map some ++ List.replicate (n - xs.length) none
structure Fn where
  np : Nat
  nv : Nat
  body : Sms
def runB (gc : Nat → D) (G : Gm) (f : Fn) (xs : List D) (S : Sx) : R D :=
  if xs.length = f.np then (match ess gc G f.body (startV f.nv xs) S with
    | .ok (.nx _) S => .ok .non S
    | .ok (.rt d) S => .ok d S
    | .exc c v S => .exc c v S
    | _ => .bad) else .bad
def runF (gc : Nat → D) (fs : List Fn) : Nat → Gm
  | 0 => fun _ _ _ => .bad
  | n + 1 => fun k xs S => match fs[k]? with
    | some f => runB gc (runF gc fs n) f xs S
    | none => .bad
end TK
end
section
set_option autoImplicit false
set_option linter.all false
namespace TK
open PySem L2

/-! ### where the data stand -/
structure Tb where
  P : Program
  w : World
  K : PySem.W.Frag
  mg : Str → Option Value
  base : Heap
  C : Nat → Addr
  F : Nat → Addr
  hid : List Addr
  tabs : List Addr
def At (T : Tb) (m : List Addr) (H : Hp) (a : Addr) (o : HO) : Prop := H a = some o ∧ a ∉ m ∧ a ∉ T.hid
def TupAt (T : Tb) (H : Hp) (m : List Addr) (a : Addr) (xs : List V) : Prop := (Rd H a (.tup xs) ∧ a ∉ m) ∨ SqT T.K (fun _ => none) a xs
def ScrAt (T : Tb) (H : Hp) (m : List Addr) (a : Addr) (xs : List V) : Prop := (Rd H a (.lst xs) ∧ a ∉ m ∧ a ∉ T.hid) ∨ SqL T.K (fun _ => none) a xs
mutual
def RepV (T : Tb) (H : Hp) (m : List Addr) : D → V → Prop
  | .non, v => v = .non
  | .bl b, v => v = .bl b
  | .int i, v => v = .int i
  | .str x, v => v = .str x
  | .scr xs, v => ∃ a, v = .ref a ∧ ScrAt T H m a (xs.map V.int)
  | .tup ds, v => ∃ a xs, v = .ref a ∧ TupAt T H m a xs ∧ RepL T H m ds xs
  | .lv ds, v => ∃ a xs, v = .ref a ∧ At T m H a (.lst xs) ∧ RepL T H m ds xs
  | .dv ks ds, v => ∃ a kvs, v = .ref a ∧ At T m H a (.dK kvs) ∧ kvs.map (·.1) = ks ∧ RepL T H m ds (kvs.map (·.2))
  | .iv c ns ds, v => ∃ a dx fs, v = .ref a ∧ At T m H a (.ins (T.C c) dx fs) ∧ fs.map (·.1) = ns ∧ RepL T H m ds (fs.map (·.2))
  | .obj n, v => ∃ a, v = .ref a ∧ m[n]? = some a
  | .fn k, v => v = .ref (T.F k)
def RepL (T : Tb) (H : Hp) (m : List Addr) : List D → List V → Prop
  | [], vs => vs = []
  | d :: ds, vs => ∃ v r, vs = v :: r ∧ RepV T H m d v ∧ RepL T H m ds r
end
def RepO (T : Tb) (H : Hp) (m : List Addr) (a : Addr) : MO → Prop
  | .lst ds => ∃ xs, H a = some (.lst xs) ∧ RepL T H m ds xs
  | .dk ks ds => ∃ kvs, H a = some (.dK kvs) ∧ kvs.map (·.1) = ks ∧ RepL T H m ds (kvs.map (·.2))
  | .dn _ _ => False
  | .sn _ => False
  | .ins c ns ds => ∃ dx fs, H a = some (.ins (T.C c) dx fs) ∧ fs.map (·.1) = ns ∧ RepL T H m ds (fs.map (·.2))
structure RelH (T : Tb) (H : Hp) (m : List Addr) (S : Sx) : Prop where
  len : m.length = S.length
  nd : m.Nodup
  hid : ∀ a ∈ T.hid, a ∉ m ∧ ∃ u, H a = some u
  tab : ∀ P ∈ T.tabs, P ∉ m ∧ GxR.TabG H P
  obj : ∀ (n : Nat) (a : Addr) (o : MO), m[n]? = some a → S[n]? = some o → RepO T H m a o
def RelV (T : Tb) (H : Hp) (m : List Addr) (s : Vs) (σ : L2.St) : Prop := s.length = σ.length ∧ ∀ (i : Nat) (d : D), s.getD i none = some d → ∃ v, σ[i]? = some (some v) ∧ RepV T H m d v
/-- further on: the objects by number stand first, what is no object by number is as it was -/
structure Later (H H' : Hp) (m m' : List Addr) : Prop where
  pre : ∃ n, m' = m ++ n ∧ ∀ a ∈ n, H a = none ∧ a ∉ m
  fr : ∀ a o, H a = some o → a ∉ m → (∀ ps, o ≠ .tbl ps) → H' a = some o
  tb : ∀ a ps, H a = some (.tbl ps) → a ∉ m → ∃ qs, H' a = some (.tbl qs)

section
variable {T : Tb} {H H' H1 H2 : Hp} {m m' m1 m2 : List Addr} {S : Sx}
theorem Later.refl : Later H H m m := ⟨⟨[], by simp, by simp⟩, fun _ _ h _ _ => h, fun _ ps h _ => ⟨ps, h⟩⟩
theorem Later.out (L : Later H H' m m') {a : Addr} {o : HO} (h : H a = some o) (n : a ∉ m) : a ∉ m' := by
  obtain ⟨r, rfl, hr⟩ := L.pre
  intro q
  rcases List.mem_append.mp q with q | q
  · exact n q
  · rw [(hr a q).1] at h
    cases h
theorem Later.trans (L : Later H H1 m m1) (M : Later H1 H2 m1 m2) : Later H H2 m m2 := by
  refine ⟨?_, fun a o h n nt => M.fr a o (L.fr a o h n nt) (L.out h n) nt, fun a ps h n => let ⟨qs, h1⟩ := L.tb a ps h n; M.tb a qs h1 (L.out h n)⟩
  obtain ⟨r, rfl, hr⟩ := L.pre
  obtain ⟨q, rfl, hq⟩ := M.pre
  refine ⟨r ++ q, by simp, fun a ha => ?_⟩
  rcases List.mem_append.mp ha with z | z
  · exact hr a z
  · have nm : a ∉ m := fun k => (hq a z).2 (List.mem_append_left _ k)
    refine ⟨?_, nm⟩
    cases e : H a with
    | none => rfl
    | some o =>
      have : ∃ u, H1 a = some u := by
        cases o with
        | tbl ps => exact let ⟨qs, h1⟩ := L.tb a ps e nm; ⟨_, h1⟩
        | _ => exact ⟨_, L.fr a _ e nm (fun _ q => nomatch q)⟩
      obtain ⟨u, this⟩ := this
      rw [(hq a z).1] at this
      cases this
theorem Later.get (L : Later H H' m m') {n : Nat} {a : Addr} (h : m[n]? = some a) : m'[n]? = some a := by
  obtain ⟨r, rfl, _⟩ := L.pre
  obtain ⟨hl, e⟩ := List.getElem?_eq_some_iff.mp h
  rw [List.getElem?_append_left hl]
  exact h
theorem Later.at_ (L : Later H H' m m') {a : Addr} {o : HO} (h : At T m H a o) (nt : ∀ ps, o ≠ .tbl ps := by intro _ e; cases e) : At T m' H' a o := ⟨L.fr a o h.1 h.2.1 nt, L.out h.1 h.2.1, h.2.2⟩
theorem Later.rd (L : Later H H' m m') {a : Addr} {u : HO} (h : Rd H a u) (n : a ∉ m) (nt : ∀ ps, u ≠ .tbl ps := by intro _ e; cases e) : Rd H' a u ∧ a ∉ m' := by
  rcases h with h | ⟨o, h⟩
  · exact ⟨.inl (L.fr a _ h n nt), L.out h n⟩
  · exact ⟨.inr ⟨o, L.fr a _ h n (fun _ e => nomatch e)⟩, L.out h n⟩
mutual
theorem RepV.mono (L : Later H H' m m') : ∀ (d : D) (v : V), RepV T H m d v → RepV T H' m' d v
  | .non, v, h => h
  | .bl b, v, h => h
  | .int i, v, h => h
  | .str x, v, h => h
  | .scr xs, v, h => by
    obtain ⟨a, e, h1 | h1⟩ := h
    · exact ⟨a, e, .inl ⟨(L.rd h1.1 h1.2.1).1, (L.rd h1.1 h1.2.1).2, h1.2.2⟩⟩
    · exact ⟨a, e, .inr h1⟩
  | .tup ds, v, h => by
    obtain ⟨a, xs, e, h1 | h1, h2⟩ := h
    · exact ⟨a, xs, e, .inl (L.rd h1.1 h1.2), RepL.mono L ds xs h2⟩
    · exact ⟨a, xs, e, .inr h1, RepL.mono L ds xs h2⟩
  | .lv ds, v, h => by
    obtain ⟨a, xs, e, h1, h2⟩ := h
    exact ⟨a, xs, e, L.at_ h1, RepL.mono L ds xs h2⟩
  | .dv ks ds, v, h => by
    obtain ⟨a, xs, e, h1, h2, h3⟩ := h
    exact ⟨a, xs, e, L.at_ h1, h2, RepL.mono L ds _ h3⟩
  | .iv c ns ds, v, h => by
    obtain ⟨a, dx, xs, e, h1, h2, h3⟩ := h
    exact ⟨a, dx, xs, e, L.at_ h1, h2, RepL.mono L ds _ h3⟩
  | .obj n, v, h => by
    obtain ⟨a, e, h1⟩ := h
    exact ⟨a, e, L.get h1⟩
  | .fn k, v, h => h
theorem RepL.mono (L : Later H H' m m') : ∀ (ds : List D) (vs : List V), RepL T H m ds vs → RepL T H' m' ds vs
  | [], vs, h => h
  | d :: ds, vs, h => by
    obtain ⟨v, r, e, h1, h2⟩ := h
    exact ⟨v, r, e, RepV.mono L d v h1, RepL.mono L ds r h2⟩
end
/-! the same without the objects behind: what was said of data ahead -/
section
variable {m3 : List Addr} (g1 : ∀ (n : Nat) (a : Addr), m[n]? = some a → m'[n]? = some a) (g2 : ∀ (n : Nat) (a : Addr), m[n]? = some a → m3[n]? = some a) (n : ∀ a, a ∉ m' → a ∉ m3)
include g1 g2 n
mutual
theorem RepV.back : ∀ (d : D) (v0 v : V) (H0 : Hp), RepV T H0 m d v0 → RepV T H' m' d v → RepV T H' m3 d v
  | .non, _, v, _, _, h => h
  | .bl b, _, v, _, _, h => h
  | .int i, _, v, _, _, h => h
  | .str x, _, v, _, _, h => h
  | .scr xs, _, v, _, _, h => by
    obtain ⟨a, e, h1 | h1⟩ := h
    · exact ⟨a, e, .inl ⟨h1.1, n a h1.2.1, h1.2.2⟩⟩
    · exact ⟨a, e, .inr h1⟩
  | .tup ds, _, v, H0, g, h => by
    obtain ⟨_, xs0, _, _, k2⟩ := g
    obtain ⟨a, xs, e, h1 | h1, h2⟩ := h
    · exact ⟨a, xs, e, .inl ⟨h1.1, n a h1.2⟩, RepL.back ds xs0 xs H0 k2 h2⟩
    · exact ⟨a, xs, e, .inr h1, RepL.back ds xs0 xs H0 k2 h2⟩
  | .lv ds, _, v, H0, g, h => by
    obtain ⟨_, xs0, _, _, k2⟩ := g
    obtain ⟨a, xs, e, h1, h2⟩ := h
    exact ⟨a, xs, e, ⟨h1.1, n a h1.2.1, h1.2.2⟩, RepL.back ds xs0 xs H0 k2 h2⟩
  | .dv ks ds, _, v, H0, g, h => by
    obtain ⟨_, xs0, _, _, _, k2⟩ := g
    obtain ⟨a, xs, e, h1, h2, h3⟩ := h
    exact ⟨a, xs, e, ⟨h1.1, n a h1.2.1, h1.2.2⟩, h2, RepL.back ds _ _ H0 k2 h3⟩
  | .iv c ns ds, _, v, H0, g, h => by
    obtain ⟨_, _, xs0, _, _, _, k2⟩ := g
    obtain ⟨a, dx, xs, e, h1, h2, h3⟩ := h
    exact ⟨a, dx, xs, e, ⟨h1.1, n a h1.2.1, h1.2.2⟩, h2, RepL.back ds _ _ H0 k2 h3⟩
  | .obj k, _, v, _, g, h => by
    obtain ⟨b, _, k1⟩ := g
    obtain ⟨a, e, h1⟩ := h
    rw [g1 _ _ k1] at h1
    exact ⟨a, e, by rw [← h1]; exact g2 _ _ k1⟩
  | .fn k, _, v, _, _, h => h
theorem RepL.back : ∀ (ds : List D) (vs0 vs : List V) (H0 : Hp), RepL T H0 m ds vs0 → RepL T H' m' ds vs → RepL T H' m3 ds vs
  | [], _, vs, _, _, h => h
  | d :: ds, _, vs, H0, g, h => by
    obtain ⟨v0, r0, _, k1, k2⟩ := g
    obtain ⟨v, r, e, h1, h2⟩ := h
    exact ⟨v, r, e, RepV.back d v0 v H0 k1 h1, RepL.back ds r0 r H0 k2 h2⟩
end
end
/-! pure data, whatever the objects -/
mutual
theorem RepV.pure (n : ∀ a, a ∉ m → a ∉ m') : ∀ (d : D) (v : V), d.pure = true → RepV T H m d v → RepV T H m' d v
  | .non, v, _, h => h
  | .bl b, v, _, h => h
  | .int i, v, _, h => h
  | .str x, v, _, h => h
  | .scr xs, v, _, h => by
    obtain ⟨a, e, h1 | h1⟩ := h
    · exact ⟨a, e, .inl ⟨h1.1, n a h1.2.1, h1.2.2⟩⟩
    · exact ⟨a, e, .inr h1⟩
  | .tup ds, v, p, h => by
    obtain ⟨a, xs, e, h1 | h1, h2⟩ := h
    · exact ⟨a, xs, e, .inl ⟨h1.1, n a h1.2⟩, RepL.pure n ds xs (by simpa [D.pure] using p) h2⟩
    · exact ⟨a, xs, e, .inr h1, RepL.pure n ds xs (by simpa [D.pure] using p) h2⟩
  | .lv ds, v, p, h => by
    obtain ⟨a, xs, e, h1, h2⟩ := h
    exact ⟨a, xs, e, ⟨h1.1, n a h1.2.1, h1.2.2⟩, RepL.pure n ds xs (by simpa [D.pure] using p) h2⟩
  | .dv ks ds, v, p, h => by
    obtain ⟨a, xs, e, h1, h2, h3⟩ := h
    exact ⟨a, xs, e, ⟨h1.1, n a h1.2.1, h1.2.2⟩, h2, RepL.pure n ds _ (by simpa [D.pure] using p) h3⟩
  | .iv c ns ds, v, p, h => by
    obtain ⟨a, dx, xs, e, h1, h2, h3⟩ := h
    exact ⟨a, dx, xs, e, ⟨h1.1, n a h1.2.1, h1.2.2⟩, h2, RepL.pure n ds _ (by simpa [D.pure] using p) h3⟩
  | .obj k, v, p, h => by simp [D.pure] at p
  | .fn k, v, _, h => h
theorem RepL.pure (n : ∀ a, a ∉ m → a ∉ m') : ∀ (ds : List D) (vs : List V), D.pures ds = true → RepL T H m ds vs → RepL T H m' ds vs
  | [], vs, _, h => h
  | d :: ds, vs, p, h => by
    obtain ⟨v, r, e, h1, h2⟩ := h
    have p2 : (d.pure && D.pures ds) = true := by simpa [D.pures] using p
    obtain ⟨p3, p4⟩ := Bool.and_eq_true_iff.mp p2
    exact ⟨v, r, e, RepV.pure n d v p3 h1, RepL.pure n ds r p4 h2⟩
end
/-! ### lists -/
theorem RepL.len : ∀ {ds : List D} {vs : List V}, RepL T H m ds vs → ds.length = vs.length
  | [], vs, h => by rw [show vs = [] from h] <;> rfl
  | d :: ds, vs, h => by
    obtain ⟨v, r, rfl, _, h2⟩ := h
    simp [RepL.len h2]
theorem RepL.get : ∀ {ds : List D} {vs : List V} {i : Nat} {d : D}, RepL T H m ds vs → ds[i]? = some d → ∃ v, vs[i]? = some v ∧ RepV T H m d v
  | [], vs, i, d, h, e => by simp at e
  | c :: ds, vs, 0, d, h, e => by
    obtain ⟨v, r, rfl, h1, _⟩ := h
    simp at e
    subst e
    exact ⟨v, by simp, h1⟩
  | c :: ds, vs, i + 1, d, h, e => by
    obtain ⟨v, r, rfl, _, h2⟩ := h
    simp at e
    obtain ⟨u, e1, e2⟩ := RepL.get h2 e
    exact ⟨u, by simpa using e1, e2⟩
theorem RepL.get' {ds : List D} {vs : List V} {i : Nat} {v : V} (h : RepL T H m ds vs) (e : vs[i]? = some v) : ∃ d, ds[i]? = some d ∧ RepV T H m d v := by
  have hl := h.len
  obtain ⟨hi, _⟩ := List.getElem?_eq_some_iff.mp e
  have e2 : ds[i]? = some (ds[i]'(by omega)) := List.getElem?_eq_getElem _
  obtain ⟨u, h1, h2⟩ := h.get e2
  rw [e] at h1
  cases h1
  exact ⟨_, e2, h2⟩
theorem RepL.of : ∀ {ds : List D} {vs : List V}, ds.length = vs.length → (∀ (i : Nat) (d : D) (v : V), ds[i]? = some d → vs[i]? = some v → RepV T H m d v) → RepL T H m ds vs
  | [], [], _, _ => rfl
  | [], _ :: _, h, _ => by simp at h
  | _ :: _, [], h, _ => by simp at h
  | d :: ds, v :: vs, h, f => ⟨v, vs, rfl, f 0 d v (by simp) (by simp), RepL.of (by simpa using h) fun i d v h1 h2 => f (i + 1) d v (by simpa using h1) (by simpa using h2)⟩
theorem RepL.append {ds es : List D} {vs us : List V} (a : RepL T H m ds vs) (b : RepL T H m es us) : RepL T H m (ds ++ es) (vs ++ us) := by
  induction ds generalizing vs with
  | nil =>
    rw [show vs = [] from a]
    exact b
  | cons d ds ih =>
    obtain ⟨v, r, rfl, h1, h2⟩ := a
    exact ⟨v, r ++ us, rfl, h1, ih h2⟩
theorem RepL.one {d : D} {v : V} (h : RepV T H m d v) : RepL T H m [d] [v] := ⟨v, [], rfl, h, rfl⟩
theorem RepL.drop {ds : List D} {vs : List V} (n : Nat) (h : RepL T H m ds vs) : RepL T H m (ds.drop n) (vs.drop n) :=
  RepL.of (by simp [h.len]) fun i d v h1 h2 => by
    rw [List.getElem?_drop] at h1 h2
    obtain ⟨u, e1, e2⟩ := h.get h1
    rw [h2] at e1
    cases e1
    exact e2
theorem RepL.take {ds : List D} {vs : List V} (n : Nat) (h : RepL T H m ds vs) : RepL T H m (ds.take n) (vs.take n) :=
  RepL.of (by simp [h.len]) fun i d v h1 h2 => by
    rw [List.getElem?_take] at h1 h2
    split at h1
    · rename_i hn
      rw [if_pos hn] at h2
      obtain ⟨u, e1, e2⟩ := h.get h1
      rw [h2] at e1
      cases e1
      exact e2
    · cases h1
theorem RepL.set {ds : List D} {vs : List V} {d : D} {v : V} (n : Nat) (h : RepL T H m ds vs) (hd : RepV T H m d v) : RepL T H m (ds.set n d) (vs.set n v) :=
  RepL.of (by simp [h.len]) fun i e u h1 h2 => by
    rw [List.getElem?_set] at h1 h2
    by_cases hn : n = i
    · rw [if_pos hn] at h1 h2
      split at h1
      · cases h1
        split at h2
        · cases h2
          exact hd
        · cases h2
      · cases h1
    · rw [if_neg hn] at h1 h2
      obtain ⟨u', e1, e2⟩ := h.get h1
      rw [h2] at e1
      cases e1
      exact e2
theorem RepL.erase {ds : List D} {vs : List V} (n : Nat) (h : RepL T H m ds vs) : RepL T H m (ds.eraseIdx n) (vs.eraseIdx n) := by
  rw [List.eraseIdx_eq_take_drop_succ, List.eraseIdx_eq_take_drop_succ]
  exact (h.take n).append (h.drop (n + 1))
theorem RepL.dropLast {ds : List D} {vs : List V} (h : RepL T H m ds vs) : RepL T H m ds.dropLast vs.dropLast := by
  rw [List.dropLast_eq_take, List.dropLast_eq_take, h.len]
  exact h.take _
theorem RepL.at_ {ds : List D} {vs : List V} {i : Int} {d : D} (h : RepL T H m ds vs) (e : atI ds i = some d) : ∃ v, atI vs i = some v ∧ RepV T H m d v := by
  unfold atI at e ⊢
  rw [← h.len]
  obtain ⟨j, hj, e2⟩ := Option.bind_eq_some_iff.mp e
  obtain ⟨v, e3, e4⟩ := h.get e2
  exact ⟨v, by rw [hj]; simpa using e3, e4⟩
theorem RepL.nil_iff {ds : List D} {vs : List V} (h : RepL T H m ds vs) : ds.isEmpty = vs.isEmpty := by
  have := h.len
  cases ds <;> cases vs <;> simp_all
theorem RepL.ints : ∀ {xs : List Int} {vs : List V}, RepL T H m (xs.map D.int) vs → vs = xs.map V.int
  | [], vs, h => h
  | x :: xs, vs, h => by
    obtain ⟨v, r, rfl, h1, h2⟩ := h
    rw [show v = .int x from h1, RepL.ints h2] <;> rfl
theorem RepL.of_ints : ∀ (xs : List Int), RepL T H m (xs.map D.int) (xs.map V.int)
  | [] => rfl
  | x :: xs => ⟨.int x, xs.map V.int, rfl, rfl, RepL.of_ints xs⟩
/-! ### the objects -/
theorem RepO.there {a : Addr} {o : MO} (h : RepO T H m a o) : ∃ u, H a = some u ∧ Mut (some u) ∧ ∀ xs, u ≠ .tup xs := by
  cases o with
  | lst ds => obtain ⟨xs, e, _⟩ := h; exact ⟨_, e, trivial, fun _ q => nomatch q⟩
  | dk ks ds => obtain ⟨xs, e, _⟩ := h; exact ⟨_, e, trivial, fun _ q => nomatch q⟩
  | dn ks ds => exact h.elim
  | sn ks => exact h.elim
  | ins c ns ds => obtain ⟨dx, xs, e, _⟩ := h; exact ⟨_, e, trivial, fun _ q => nomatch q⟩
theorem RepO.back {m3 : List Addr} (g1 : ∀ (n : Nat) (a : Addr), m[n]? = some a → m'[n]? = some a) (g2 : ∀ (n : Nat) (a : Addr), m[n]? = some a → m3[n]? = some a) (n : ∀ a, a ∉ m' → a ∉ m3) {a : Addr} {o : MO} {H0 : Hp} (g : RepO T H0 m a o) (h : RepO T H' m' a o) : RepO T H' m3 a o := by
  cases o with
  | lst ds =>
    obtain ⟨xs, e1, q1⟩ := h
    obtain ⟨xs0, _, q0⟩ := g
    exact ⟨xs, e1, RepL.back g1 g2 n ds xs0 xs H0 q0 q1⟩
  | dk ks ds =>
    obtain ⟨xs, e1, e2, q1⟩ := h
    obtain ⟨xs0, _, _, q0⟩ := g
    exact ⟨xs, e1, e2, RepL.back g1 g2 n ds _ _ H0 q0 q1⟩
  | dn ks ds => exact h.elim
  | sn ks => exact h.elim
  | ins c ns ds =>
    obtain ⟨dx, xs, e1, e2, q1⟩ := h
    obtain ⟨_, xs0, _, _, q0⟩ := g
    exact ⟨dx, xs, e1, e2, RepL.back g1 g2 n ds _ _ H0 q0 q1⟩
theorem RepO.pure (n : ∀ a, a ∉ m → a ∉ m') {a : Addr} {o : MO} (p : o.pure = true) (h : RepO T H m a o) : RepO T H m' a o := by
  cases o with
  | lst ds =>
    obtain ⟨xs, e1, q1⟩ := h
    exact ⟨xs, e1, RepL.pure n ds xs p q1⟩
  | dk ks ds =>
    obtain ⟨xs, e1, e2, q1⟩ := h
    exact ⟨xs, e1, e2, RepL.pure n ds _ p q1⟩
  | dn ks ds => exact h.elim
  | sn ks => exact h.elim
  | ins c ns ds =>
    obtain ⟨dx, xs, e1, e2, q1⟩ := h
    exact ⟨dx, xs, e1, e2, RepL.pure n ds _ p q1⟩
theorem RelH.there (R : RelH T H m S) {n : Nat} {a : Addr} (h : m[n]? = some a) : ∃ o, S[n]? = some o ∧ RepO T H m a o := by
  obtain ⟨hl, _⟩ := List.getElem?_eq_some_iff.mp h
  have e : S[n]? = some (S[n]'(by rw [← R.len]; exact hl)) := List.getElem?_eq_getElem _
  exact ⟨_, e, R.obj n a _ h e⟩
theorem RelH.mem (R : RelH T H m S) {a : Addr} (h : a ∈ m) : ∃ u, H a = some u ∧ Mut (some u) ∧ ∀ xs, u ≠ .tup xs := by
  obtain ⟨n, hn⟩ := List.getElem?_of_mem h
  obtain ⟨o, _, q⟩ := R.there hn
  exact q.there
theorem RelH.new (R : RelH T H m S) {p : Addr} (h : H p = none) : p ∉ m := fun q => by
  obtain ⟨u, e, _⟩ := R.mem q
  rw [h] at e
  cases e
theorem RelH.fresh (R : RelH T H m S) {p : Addr} (h : H p = none) : p ∉ T.hid := fun q => by
  obtain ⟨_, u, e⟩ := R.hid p q
  rw [h] at e
  cases e
theorem RelH.seen (R : RelH T H m S) {p : Addr} (h : p ∈ m) : p ∉ T.hid := fun q => (R.hid p q).1 h
theorem RepO.mono {H' : Hp} {m' : List Addr} (L : Later H H' m m') {a : Addr} {o : MO} (e : H' a = H a) (h : RepO T H m a o) : RepO T H' m' a o := by
  cases o with
  | lst ds => obtain ⟨xs, e1, h1⟩ := h; exact ⟨xs, e.trans e1, RepL.mono L ds xs h1⟩
  | dk ks ds => obtain ⟨xs, e1, h1, h2⟩ := h; exact ⟨xs, e.trans e1, h1, RepL.mono L ds _ h2⟩
  | dn ks ds => exact h.elim
  | sn ks => exact h.elim
  | ins c ns ds => obtain ⟨dx, xs, e1, h1, h2⟩ := h; exact ⟨dx, xs, e.trans e1, h1, RepL.mono L ds _ h2⟩
theorem later_new {p : Addr} {o : HO} (h : H p = none) : Later H (upd H p o) m m := ⟨⟨[], by simp, by simp⟩, fun a u e _ _ => by rw [upd_ne (ne_of_none e h)]; exact e, fun a ps e _ => ⟨ps, by rw [upd_ne (ne_of_none e h)]; exact e⟩⟩
theorem tab_new {p P : Addr} {o : HO} (h : H p = none) (t : GxR.TabG H P) : GxR.TabG (upd H p o) P := by
  obtain ⟨ps, e, r⟩ := t
  exact ⟨ps, by rw [upd_ne (ne_of_none e h)]; exact e, r⟩
/-- something that is no object by number has come -/
theorem RelH.aside (R : RelH T H m S) {p : Addr} {o : HO} (h : H p = none) : RelH T (upd H p o) m S := by
  have hp := R.new h
  exact ⟨R.len, R.nd, fun a ha => ⟨(R.hid a ha).1, let ⟨u, e⟩ := (R.hid a ha).2; ⟨u, by rw [upd_ne (ne_of_none e h)]; exact e⟩⟩, fun P hP => ⟨(R.tab P hP).1, tab_new h (R.tab P hP).2⟩, fun n a u h1 h2 => (R.obj n a u h1 h2).mono (later_new h) (upd_ne fun e => hp (e ▸ List.mem_of_getElem? h1))⟩
/-- a new object by number -/
theorem later_push (R : RelH T H m S) {p : Addr} {o : HO} (h : H p = none) : Later H (upd H p o) m (m ++ [p]) :=
  ⟨⟨[p], rfl, fun a ha => by rw [List.mem_singleton.mp ha]; exact ⟨h, R.new h⟩⟩, fun a u e _ _ => by rw [upd_ne (ne_of_none e h)]; exact e, fun a ps e _ => ⟨ps, by rw [upd_ne (ne_of_none e h)]; exact e⟩⟩
theorem RelH.push (R : RelH T H m S) {p : Addr} {u : HO} {o : MO} (h : H p = none) (q : RepO T (upd H p u) (m ++ [p]) p o) : RelH T (upd H p u) (m ++ [p]) (S ++ [o]) := by
  have hp := R.new h
  refine ⟨by simp [R.len], ?_, fun a ha => ?_, fun P hP => ⟨fun q => ?_, tab_new h (R.tab P hP).2⟩, fun n a v h1 h2 => ?_⟩
  · rw [List.nodup_append]
    exact ⟨R.nd, by simp, fun a ha b hb e => hp (by rw [List.mem_singleton.mp hb] at e; exact e ▸ ha)⟩
  · obtain ⟨k, u, e⟩ := R.hid a ha
    refine ⟨fun q => ?_, u, by rw [upd_ne (ne_of_none e h)]; exact e⟩
    rcases List.mem_append.mp q with q | q
    · exact k q
    · exact ne_of_none e h (List.mem_singleton.mp q)
  · obtain ⟨k, ps, e, _⟩ := R.tab P hP
    rcases List.mem_append.mp q with q | q
    · exact k q
    · exact ne_of_none e h (List.mem_singleton.mp q)
  · by_cases hn : n < m.length
    · rw [List.getElem?_append_left hn] at h1
      rw [List.getElem?_append_left (by rw [← R.len]; exact hn)] at h2
      exact (R.obj n a v h1 h2).mono (later_push R h) (upd_ne fun e => hp (e ▸ List.mem_of_getElem? h1))
    · have hn2 : n = m.length := by
        have := (List.getElem?_eq_some_iff.mp h1).1
        simp at this
        omega
      subst hn2
      rw [List.getElem?_append_right (Nat.le_refl _)] at h1
      rw [R.len, List.getElem?_append_right (Nat.le_refl _)] at h2
      simp at h1 h2
      subst h1 h2
      exact q
theorem nodup_at {l : List Addr} (h : l.Nodup) {i j : Nat} {a : Addr} (h1 : l[i]? = some a) (h2 : l[j]? = some a) : i = j := by
  obtain ⟨k1, e1⟩ := List.getElem?_eq_some_iff.mp h1
  obtain ⟨k2, e2⟩ := List.getElem?_eq_some_iff.mp h2
  exact (List.getElem_inj h).mp (e1.trans e2.symm)
theorem later_set {n : Nat} {a : Addr} {u : HO} (h : m[n]? = some a) : Later H (upd H a u) m m :=
  ⟨⟨[], by simp, by simp⟩, fun b v e hb _ => by rw [upd_ne fun z : b = a => hb (by rw [z]; exact List.mem_of_getElem? h)]; exact e, fun b ps e hb => ⟨ps, by rw [upd_ne fun z : b = a => hb (by rw [z]; exact List.mem_of_getElem? h)]; exact e⟩⟩
/-- an object by number is written -/
theorem RelH.set (R : RelH T H m S) {n : Nat} {a : Addr} {u : HO} {o : MO} (h : m[n]? = some a) (q : RepO T (upd H a u) m a o) : RelH T (upd H a u) m (S.set n o) := by
  refine ⟨by simp [R.len], R.nd, fun b hb => ⟨(R.hid b hb).1, ?_⟩, fun P hP => ⟨(R.tab P hP).1, let ⟨ps, e, r⟩ := (R.tab P hP).2; ⟨ps, by rw [upd_ne fun z : P = a => (R.tab P hP).1 (by rw [z]; exact List.mem_of_getElem? h)]; exact e, r⟩⟩, fun k b v h1 h2 => ?_⟩
  · obtain ⟨_, v, e⟩ := R.hid b hb
    exact ⟨v, by rw [upd_ne fun z : b = a => (R.hid b hb).1 (by rw [z]; exact List.mem_of_getElem? h)]; exact e⟩
  rw [List.getElem?_set] at h2
  by_cases hk : n = k
  · subst hk
    rw [h] at h1
    cases h1
    rw [if_pos rfl] at h2
    split at h2
    · cases h2
      exact q
    · cases h2
  · rw [if_neg hk] at h2
    exact (R.obj k b v h1 h2).mono (later_set h) (upd_ne fun e => hk (nodup_at R.nd h (e ▸ h1)))
/-! ### the names -/
theorem RelV.mono {s : Vs} {σ : L2.St} (L : Later H H' m m') (h : RelV T H m s σ) : RelV T H' m' s σ := ⟨h.1, fun i d e => let ⟨v, h1, h2⟩ := h.2 i d e; ⟨v, h1, RepV.mono L d v h2⟩⟩
theorem RelV.set {s : Vs} {σ : L2.St} {d : D} {v : V} (i : Nat) (h : RelV T H m s σ) (hd : RepV T H m d v) : RelV T H m (s.set i (some d)) (σ.set i (some v)) := by
  refine ⟨by simp [h.1], fun j e hj => ?_⟩
  simp only [List.getD_eq_getElem?_getD, List.getElem?_set] at hj
  by_cases hij : i = j
  · subst hij
    rw [if_pos rfl] at hj
    split at hj
    · rename_i hl
      simp at hj
      subst hj
      refine ⟨v, ?_, hd⟩
      rw [List.getElem?_set, if_pos rfl, if_pos (by rw [← h.1]; exact hl)]
    · simp at hj
  · rw [if_neg hij] at hj
    obtain ⟨v', h1, h2⟩ := h.2 j e (by simpa [List.getD_eq_getElem?_getD] using hj)
    exact ⟨v', by rw [List.getElem?_set, if_neg hij]; exact h1, h2⟩
theorem RelV.clear {s : Vs} {σ : L2.St} (i : Nat) (h : RelV T H m s σ) : RelV T H m (s.set i none) (σ.set i none) := by
  refine ⟨by simp [h.1], fun j e hj => ?_⟩
  simp only [List.getD_eq_getElem?_getD, List.getElem?_set] at hj
  by_cases hij : i = j
  · subst hij
    rw [if_pos rfl] at hj
    split at hj <;> simp at hj
  · rw [if_neg hij] at hj
    obtain ⟨v', h1, h2⟩ := h.2 j e (by simpa [List.getD_eq_getElem?_getD] using hj)
    exact ⟨v', by rw [List.getElem?_set, if_neg hij]; exact h1, h2⟩
theorem RelV.wipe {s : Vs} {σ : L2.St} (h : RelV T H m s σ) : ∀ vs : List Nat, RelV T H m (wipeV s vs) (L2.wipe σ vs)
  | [] => h
  | v :: vs => (RelV.wipe h vs).clear v
theorem RelV.start {ds : List D} {vs : List V} (N : List Str) (h : RepL T H m ds vs) : RelV T H m (startV N.length ds) (L2.start N vs) := by
  unfold startV L2.start
  refine ⟨by simp [h.len], fun i d e => ?_⟩
  simp only [List.getD_eq_getElem?_getD] at e
  by_cases hi : i < ds.length
  · rw [List.getElem?_append_left (by simpa using hi), List.getElem?_map] at e
    cases q : ds[i]? with
    | none => simp [q] at e
    | some d' =>
      simp [q] at e
      subst e
      obtain ⟨v, h1, h2⟩ := h.get q
      refine ⟨v, ?_, h2⟩
      rw [List.getElem?_append_left (by simpa [← h.len] using hi), List.getElem?_map, h1]
      rfl
  · rw [List.getElem?_append_right (by simpa using Nat.le_of_not_lt hi), List.getElem?_replicate] at e
    split at e <;> simp at e
/-! ### a thing out of the data's sight -/
def Tb.hide (T : Tb) (p : Addr) : Tb := { T with hid := p :: T.hid }
section
variable {p : Addr}
theorem At.hide (hp : H p = none) {a : Addr} {o : HO} (h : At T m H a o) : At (T.hide p) m H a o := ⟨h.1, h.2.1, fun q => by
  rcases List.mem_cons.mp q with q | q
  · have e := h.1
    rw [q, hp] at e
    cases e
  · exact h.2.2 q⟩
theorem At.unhide {a : Addr} {o : HO} (h : At (T.hide p) m H a o) : At T m H a o := ⟨h.1, h.2.1, fun q => h.2.2 (List.mem_cons_of_mem _ q)⟩
mutual
theorem RepV.hide (hp : H p = none) : ∀ (d : D) (v : V), RepV T H m d v → RepV (T.hide p) H m d v
  | .non, v, h => h
  | .bl b, v, h => h
  | .int i, v, h => h
  | .str x, v, h => h
  | .scr xs, v, h => by
    obtain ⟨a, e, h1 | h1⟩ := h
    · refine ⟨a, e, .inl ⟨h1.1, h1.2.1, fun q => ?_⟩⟩
      rcases List.mem_cons.mp q with q | q
      · subst q
        rcases h1.1 with z | ⟨o, z⟩ <;> rw [hp] at z <;> cases z
      · exact h1.2.2 q
    · exact ⟨a, e, .inr h1⟩
  | .tup ds, v, h => by
    obtain ⟨a, xs, e, h1, h2⟩ := h
    exact ⟨a, xs, e, h1, RepL.hide hp ds xs h2⟩
  | .lv ds, v, h => by
    obtain ⟨a, xs, e, h1, h2⟩ := h
    exact ⟨a, xs, e, h1.hide hp, RepL.hide hp ds xs h2⟩
  | .dv ks ds, v, h => by
    obtain ⟨a, xs, e, h1, h2, h3⟩ := h
    exact ⟨a, xs, e, h1.hide hp, h2, RepL.hide hp ds _ h3⟩
  | .iv c ns ds, v, h => by
    obtain ⟨a, dx, xs, e, h1, h2, h3⟩ := h
    exact ⟨a, dx, xs, e, h1.hide hp, h2, RepL.hide hp ds _ h3⟩
  | .obj n, v, h => h
  | .fn k, v, h => h
theorem RepL.hide (hp : H p = none) : ∀ (ds : List D) (vs : List V), RepL T H m ds vs → RepL (T.hide p) H m ds vs
  | [], vs, h => h
  | d :: ds, vs, h => by
    obtain ⟨v, r, e, h1, h2⟩ := h
    exact ⟨v, r, e, RepV.hide hp d v h1, RepL.hide hp ds r h2⟩
end
mutual
theorem RepV.unhide : ∀ (d : D) (v : V), RepV (T.hide p) H m d v → RepV T H m d v
  | .non, v, h => h
  | .bl b, v, h => h
  | .int i, v, h => h
  | .str x, v, h => h
  | .scr xs, v, h => by
    obtain ⟨a, e, h1 | h1⟩ := h
    · exact ⟨a, e, .inl ⟨h1.1, h1.2.1, fun q => h1.2.2 (List.mem_cons_of_mem _ q)⟩⟩
    · exact ⟨a, e, .inr h1⟩
  | .tup ds, v, h => by
    obtain ⟨a, xs, e, h1, h2⟩ := h
    exact ⟨a, xs, e, h1, RepL.unhide ds xs h2⟩
  | .lv ds, v, h => by
    obtain ⟨a, xs, e, h1, h2⟩ := h
    exact ⟨a, xs, e, h1.unhide, RepL.unhide ds xs h2⟩
  | .dv ks ds, v, h => by
    obtain ⟨a, xs, e, h1, h2, h3⟩ := h
    exact ⟨a, xs, e, h1.unhide, h2, RepL.unhide ds _ h3⟩
  | .iv c ns ds, v, h => by
    obtain ⟨a, dx, xs, e, h1, h2, h3⟩ := h
    exact ⟨a, dx, xs, e, h1.unhide, h2, RepL.unhide ds _ h3⟩
  | .obj n, v, h => h
  | .fn k, v, h => h
theorem RepL.unhide : ∀ (ds : List D) (vs : List V), RepL (T.hide p) H m ds vs → RepL T H m ds vs
  | [], vs, h => h
  | d :: ds, vs, h => by
    obtain ⟨v, r, e, h1, h2⟩ := h
    exact ⟨v, r, e, RepV.unhide d v h1, RepL.unhide ds r h2⟩
end
theorem RepO.hide (hp : H p = none) {a : Addr} {o : MO} (h : RepO T H m a o) : RepO (T.hide p) H m a o := by
  cases o with
  | lst ds => obtain ⟨xs, e1, h1⟩ := h; exact ⟨xs, e1, RepL.hide hp ds xs h1⟩
  | dk ks ds => obtain ⟨xs, e1, h1, h2⟩ := h; exact ⟨xs, e1, h1, RepL.hide hp ds _ h2⟩
  | dn ks ds => exact h.elim
  | sn ks => exact h.elim
  | ins c ns ds => obtain ⟨dx, xs, e1, h1, h2⟩ := h; exact ⟨dx, xs, e1, h1, RepL.hide hp ds _ h2⟩
theorem RepO.unhide {a : Addr} {o : MO} (h : RepO (T.hide p) H m a o) : RepO T H m a o := by
  cases o with
  | lst ds => obtain ⟨xs, e1, h1⟩ := h; exact ⟨xs, e1, RepL.unhide ds xs h1⟩
  | dk ks ds => obtain ⟨xs, e1, h1, h2⟩ := h; exact ⟨xs, e1, h1, RepL.unhide ds _ h2⟩
  | dn ks ds => exact h.elim
  | sn ks => exact h.elim
  | ins c ns ds => obtain ⟨dx, xs, e1, h1, h2⟩ := h; exact ⟨dx, xs, e1, h1, RepL.unhide ds _ h2⟩
theorem RelH.hide (R : RelH T H m S) (hp : H p = none) {o : HO} : RelH (T.hide p) (upd H p o) m S := by
  have R1 := R.aside (o := o) hp
  have np := R.new hp
  refine ⟨R.len, R.nd, fun a ha => ?_, R1.tab, fun n a u h1 h2 => ?_⟩
  · rcases List.mem_cons.mp ha with e | e
    · subst e
      exact ⟨np, _, upd_same⟩
    · exact R1.hid a e
  · exact ((R.obj n a u h1 h2).hide hp).mono (later_new hp) (upd_ne fun e => np (e ▸ List.mem_of_getElem? h1))
theorem RelH.unhide (R : RelH (T.hide p) H m S) : RelH T H m S :=
  ⟨R.len, R.nd, fun a ha => R.hid a (List.mem_cons_of_mem _ ha), R.tab, fun n a u h1 h2 => (R.obj n a u h1 h2).unhide⟩
theorem RelV.hide {s : Vs} {σ : L2.St} (h : RelV T H m s σ) (hp : H p = none) {o : HO} : RelV (T.hide p) (upd H p o) m s σ :=
  ⟨h.1, fun i d e => let ⟨v, h1, h2⟩ := h.2 i d e; ⟨v, h1, RepV.mono (later_new hp) d v (RepV.hide hp d v h2)⟩⟩
/-! the hidden thing changes: the data stay -/
theorem At.off {a : Addr} {o : HO} (e : ∀ a, a ≠ p → H' a = H a) (h : At (T.hide p) m H a o) : At (T.hide p) m H' a o := ⟨(e a fun z => h.2.2 (by rw [z]; exact List.mem_cons_self)).trans h.1, h.2⟩
mutual
theorem RepV.off (e : ∀ a, a ≠ p → H' a = H a) (nt : ∀ xs, ¬ Rd H p (.tup xs)) : ∀ (d : D) (v : V), RepV (T.hide p) H m d v → RepV (T.hide p) H' m d v
  | .non, v, h => h
  | .bl b, v, h => h
  | .int i, v, h => h
  | .str x, v, h => h
  | .scr xs, v, h => by
    obtain ⟨a, e2, h1 | h1⟩ := h
    · refine ⟨a, e2, .inl ⟨?_, h1.2⟩⟩
      have na : a ≠ p := fun z => h1.2.2 (by rw [z]; exact List.mem_cons_self)
      rcases h1.1 with z | ⟨o, z⟩
      · exact .inl ((e a na).trans z)
      · exact .inr ⟨o, (e a na).trans z⟩
    · exact ⟨a, e2, .inr h1⟩
  | .tup ds, v, h => by
    obtain ⟨a, xs, e2, h1 | h1, h2⟩ := h
    · have na : a ≠ p := fun z => nt xs (z ▸ h1.1)
      refine ⟨a, xs, e2, .inl ⟨?_, h1.2⟩, RepL.off e nt ds xs h2⟩
      rcases h1.1 with z | ⟨o, z⟩
      · exact .inl ((e a na).trans z)
      · exact .inr ⟨o, (e a na).trans z⟩
    · exact ⟨a, xs, e2, .inr h1, RepL.off e nt ds xs h2⟩
  | .lv ds, v, h => by
    obtain ⟨a, xs, e2, h1, h2⟩ := h
    exact ⟨a, xs, e2, h1.off e, RepL.off e nt ds xs h2⟩
  | .dv ks ds, v, h => by
    obtain ⟨a, xs, e2, h1, h2, h3⟩ := h
    exact ⟨a, xs, e2, h1.off e, h2, RepL.off e nt ds _ h3⟩
  | .iv c ns ds, v, h => by
    obtain ⟨a, dx, xs, e2, h1, h2, h3⟩ := h
    exact ⟨a, dx, xs, e2, h1.off e, h2, RepL.off e nt ds _ h3⟩
  | .obj n, v, h => h
  | .fn k, v, h => h
theorem RepL.off (e : ∀ a, a ≠ p → H' a = H a) (nt : ∀ xs, ¬ Rd H p (.tup xs)) : ∀ (ds : List D) (vs : List V), RepL (T.hide p) H m ds vs → RepL (T.hide p) H' m ds vs
  | [], vs, h => h
  | d :: ds, vs, h => by
    obtain ⟨v, r, e2, h1, h2⟩ := h
    exact ⟨v, r, e2, RepV.off e nt d v h1, RepL.off e nt ds r h2⟩
end
theorem RelH.off (R : RelH (T.hide p) H m S) (e : ∀ a, a ≠ p → H' a = H a) (nt : ∀ xs, ¬ Rd H p (.tup xs)) (ntb : ∀ ps, H p ≠ some (.tbl ps)) (q : ∃ u, H' p = some u) : RelH (T.hide p) H' m S := by
  refine ⟨R.len, R.nd, fun a ha => ⟨(R.hid a ha).1, ?_⟩, fun P hP => ⟨(R.tab P hP).1, let ⟨ps, e2, r⟩ := (R.tab P hP).2; ⟨ps, (e P fun z => ntb ps (z ▸ e2)).trans e2, r⟩⟩, fun n a o h1 h2 => ?_⟩
  · by_cases z : a = p
    · rw [z]; exact q
    · rw [e a z]; exact (R.hid a ha).2
  · have na : a ≠ p := fun z => (R.hid p List.mem_cons_self).1 (by rw [← z]; exact List.mem_of_getElem? h1)
    have h3 := R.obj n a o h1 h2
    cases o with
    | lst ds => obtain ⟨xs, e1, h1⟩ := h3; exact ⟨xs, (e a na).trans e1, RepL.off e nt ds xs h1⟩
    | dk ks ds => obtain ⟨xs, e1, h1, h2⟩ := h3; exact ⟨xs, (e a na).trans e1, h1, RepL.off e nt ds _ h2⟩
    | dn ks ds => exact h3.elim
    | sn ks => exact h3.elim
    | ins c ns ds => obtain ⟨dx, xs, e1, h1, h2⟩ := h3; exact ⟨dx, xs, (e a na).trans e1, h1, RepL.off e nt ds _ h2⟩
theorem RelV.off {s : Vs} {σ : L2.St} (h : RelV (T.hide p) H m s σ) (e : ∀ a, a ≠ p → H' a = H a) (nt : ∀ xs, ¬ Rd H p (.tup xs)) : RelV (T.hide p) H' m s σ :=
  ⟨h.1, fun i d e2 => let ⟨v, h1, h2⟩ := h.2 i d e2; ⟨v, h1, RepV.off e nt d v h2⟩⟩
end
end
end TK
end
section
set_option autoImplicit false
set_option linter.all false
set_option maxRecDepth 100000
namespace TK
open PySem L2 PySem.Spec PyProof.Rows

/-! ### what must hold of an answer -/
def Ok {a : Type} (T : Tb) (E : XK) (H : Hp) (m : List Addr) (P : a → Sx → Hp → List Addr → Prop) : R a → Prop
  | .ok x S' => ∀ H' m', Later H H' m m' → RelH T H' m' S' → P x S' H' m'
  | .exc c e S' => ∀ H' m' x dd, Later H H' m m' → RelH T H' m' S' → RepV T H' m' e x → At T m' H' dd (.xd [(("value" : Str), x)]) → E (.ref (T.C c)) (some dd) H'
  | .bad => False
section
variable {a b : Type} {T : Tb} {E E' : XK} {H H' : Hp} {m m' : List Addr} {S : Sx}
theorem Ok.shift {P : a → Sx → Hp → List Addr → Prop} (L : Later H H' m m') : ∀ {r : R a}, Ok T E H m P r → Ok T E H' m' P r
  | .ok x S', h => fun H2 m2 L2 R2 => h H2 m2 (L.trans L2) R2
  | .exc c e S', h => fun H2 m2 x dd L2 R2 r q => h H2 m2 x dd (L.trans L2) R2 r q
  | .bad, h => h
theorem Ok.mono {P P' : a → Sx → Hp → List Addr → Prop} : ∀ {r : R a}, Ok T E H m P r → (∀ x S' H' m', Later H H' m m' → RelH T H' m' S' → P x S' H' m' → P' x S' H' m') → Ok T E H m P' r
  | .ok x S', h, f => fun H2 m2 L2 R2 => f x S' H2 m2 L2 R2 (h H2 m2 L2 R2)
  | .exc c e S', h, _ => h
  | .bad, h, _ => h
theorem Ok.bind {P : b → Sx → Hp → List Addr → Prop} {f : a → Sx → R b} : ∀ {r : R a}, Ok T E H m P (r.bind f) → Ok T E H m (fun x S' H' m' => Ok T E H' m' P (f x S')) r
  | .ok x S', h => fun H2 m2 L2 _ => Ok.shift L2 h
  | .exc c e S', h => h
  | .bad, h => h
theorem Ok.wish {P : a → Sx → Hp → List Addr → Prop} : ∀ {r : R a}, Ok T E H m P r → (∀ c v S, r ≠ .exc c v S) → Ok T E' H m P r
  | .ok x S', h, _ => h
  | .exc c e S', _, n => absurd rfl (n c e S')
  | .bad, h, _ => h
theorem Ok.lift {P : a → Sx → Hp → List Addr → Prop} {o : Option a} {S : Sx} (h : Ok T E H m P (lift o S)) : ∃ x, o = some x ∧ ∀ H' m', Later H H' m m' → RelH T H' m' S → P x S H' m' := by
  cases o with
  | none => exact h.elim
  | some x => exact ⟨x, rfl, h⟩
end
/-- of a value -/
abbrev PV (T : Tb) (Q : VK) : D → Sx → Hp → List Addr → Prop := fun d _ H' m' => ∀ v, RepV T H' m' d v → Q v H'
abbrev PB (Q : Bool → Hp → Prop) : Bool → Sx → Hp → List Addr → Prop := fun b _ H' _ => Q b H'
abbrev PL (T : Tb) (Q : List V → Hp → Prop) : List D → Sx → Hp → List Addr → Prop := fun ds _ H' m' => ∀ vs, RepL T H' m' ds vs → Q vs H'
/-- readings -/
def rdE (T : Tb) (W : WX) (f : Vs → Sx → R D) : TE := fun σ H Q => ∃ s S m, RelV T H m s σ ∧ RelH T H m S ∧ Ok T (fun c d H' => W c d σ H') H m (PV T Q) (f s S)
def rdT (T : Tb) (W : WX) (f : Vs → Sx → R Bool) : TT := fun σ H Q => ∃ s S m, RelV T H m s σ ∧ RelH T H m S ∧ Ok T (fun c d H' => W c d σ H') H m (PB Q) (f s S)
def rdA (T : Tb) (W : WX) (f : Vs → Sx → R (List D)) : TA := fun σ H Q => ∃ s S m, RelV T H m s σ ∧ RelH T H m S ∧ Ok T (fun c d H' => W c d σ H') H m (PL T Q) (f s S)
theorem PE_imp {X : Cx} {e : Expr} {t t' : TE} (h : PE X e t) (w : ∀ σ H Q, t' σ H Q → t σ H Q) : PE X e t' := ⟨fun pins s σ H Q I q => h.run pins s σ H Q I (w σ H Q q)⟩
theorem PT_imp {X : Cx} {e : Expr} {t t' : TT} (h : PT X e t) (w : ∀ σ H Q, t' σ H Q → t σ H Q) : PT X e t' := ⟨fun pins s σ H Q I q => h.run pins s σ H Q I (w σ H Q q)⟩
theorem PW_imp {X : Cx} {e : Expr} {t t' : TT} (h : PW X e t) (w : ∀ σ H Q, t' σ H Q → t σ H Q) : PW X e t' := ⟨fun wh pins s σ H Q I q => h.run wh pins s σ H Q I (w σ H Q q)⟩
theorem PA_imp {X : Cx} {e : List Expr} {t t' : TA} (h : PA X e t) (w : ∀ σ H Q, t' σ H Q → t σ H Q) : PA X e t' := ⟨fun p pins s σ H Q I q => h.run p pins s σ H Q I (w σ H Q q)⟩
theorem PE_bad {X : Cx} {e : Expr} {T : Tb} {W : WX} {f : Vs → Sx → R D} (h : ∀ s S, f s S = .bad) : PE X e (rdE T W f) := ⟨fun _ _ _ _ _ _ ⟨s, S, _, _, _, q⟩ => by rw [h s S] at q; exact q.elim⟩
theorem PT_bad {X : Cx} {e : Expr} {T : Tb} {W : WX} {f : Vs → Sx → R Bool} (h : ∀ s S, f s S = .bad) : PT X e (rdT T W f) := ⟨fun _ _ _ _ _ _ ⟨s, S, _, _, _, q⟩ => by rw [h s S] at q; exact q.elim⟩

/-! ### operators by values -/
/-- one value, two values by data -/
def r1 (T : Tb) (g : D → Sx → R D) : V → Hp → VK → Prop := fun x H Q => ∃ d S m, RepV T H m d x ∧ RelH T H m S ∧ Ok T (fun _ _ _ => False) H m (PV T Q) (g d S)
def r2 (T : Tb) (g : D → D → Sx → R D) : R2 := fun x y H Q => ∃ d e S m, RepV T H m d x ∧ RepV T H m e y ∧ RelH T H m S ∧ Ok T (fun _ _ _ => False) H m (PV T Q) (g d e S)
def rL (T : Tb) (g : List D → Sx → R D) : List V → Hp → VK → Prop := fun xs H Q => ∃ ds S m, RepL T H m ds xs ∧ RelH T H m S ∧ Ok T (fun _ _ _ => False) H m (PV T Q) (g ds S)
section
variable {T : Tb} {W : WX} {σ : L2.St} {H : Hp} {Q : VK}
theorem rd_un {f : Vs → Sx → R D} {g : D → Sx → R D} (nx : ∀ d S c v S', g d S ≠ .exc c v S') (h : rdE T W (fun s S => (f s S).bind g) σ H Q) : rdE T W f σ H fun x H1 => r1 T g x H1 Q := by
  obtain ⟨s, S, m, hs, hS, h⟩ := h
  exact ⟨s, S, m, hs, hS, h.bind.mono fun d S1 H1 m1 L1 R1 q v rv => ⟨d, S1, m1, rv, R1, q.wish (nx d S1)⟩⟩
theorem rd_bin {f1 f2 : Vs → Sx → R D} {g : D → D → Sx → R D} (nx : ∀ d e S c v S', g d e S ≠ .exc c v S') (h : rdE T W (fun s S => (f1 s S).bind fun x S => (f2 s S).bind fun y S => g x y S) σ H Q) :
    tOp (r2 T g) (rdE T W f1) (rdE T W f2) σ H Q := by
  obtain ⟨s, S, m, hs, hS, h⟩ := h
  refine ⟨s, S, m, hs, hS, h.bind.mono fun d S1 H1 m1 L1 R1 q v rv => ?_⟩
  refine ⟨s, S1, m1, hs.mono L1, R1, q.bind.mono fun e S2 H2 m2 L2 R2 q2 u ru => ?_⟩
  exact ⟨d, e, S2, m2, RepV.mono L2 d v rv, ru, R2, q2.wish (nx d e S2)⟩
theorem nx_lift {a : Type} (o : Option a) (S : Sx) (c : Nat) (v : D) (S' : Sx) : lift o S ≠ .exc c v S' := by
  cases o <;> intro h <;> cases h
end
section
variable {X : Cx} {T : Tb} {H : Hp} {m : List Addr} {S : Sx}
theorem RepV.seq (hK : X.K = T.K) (R : RelH T H m S) {d : D} {v : V} {xs : List D} (h : RepV T H m d v) (e : seqOf d S = some xs) : ∃ a vs, v = .ref a ∧ (SqL X.K H a vs ∨ SqT X.K H a vs) ∧ RepL T H m xs vs := by
  cases d with
  | tup ds =>
    obtain ⟨a, vs, rfl, h1, h2⟩ := h
    cases e
    refine ⟨a, vs, rfl, .inr ?_, h2⟩
    rw [hK]
    rcases h1 with h1 | h1
    · exact .inl h1.1
    · rcases h1 with h1 | h1
      · rcases h1 with h1 | ⟨_, h1⟩ <;> cases h1
      · exact .inr h1
  | lv ds =>
    obtain ⟨a, vs, rfl, h1, h2⟩ := h
    cases e
    exact ⟨a, vs, rfl, .inl (.inl (.inl h1.1)), h2⟩
  | obj n =>
    obtain ⟨a, rfl, h1⟩ := h
    obtain ⟨o, ho, q⟩ := R.there h1
    simp only [seqOf, lstOf, ho] at e
    cases o with
    | lst ds =>
      cases e
      obtain ⟨vs, h2, h3⟩ := q
      exact ⟨a, vs, rfl, .inl (.inl (.inl h2)), h3⟩
    | _ => cases e
  | _ => cases e
theorem TupAt.sq (hK : X.K = T.K) {a : Addr} {vs : List V} (h1 : TupAt T H m a vs) : SqT X.K H a vs := by
  rw [hK]
  rcases h1 with h1 | h1
  · exact .inl h1.1
  · rcases h1 with h1 | h1
    · rcases h1 with h1 | ⟨_, h1⟩ <;> cases h1
    · exact .inr h1
theorem ScrAt.sq (hK : X.K = T.K) {a : Addr} {vs : List V} (h1 : ScrAt T H m a vs) : SqL X.K H a vs := by
  rw [hK]
  rcases h1 with h1 | h1
  · exact .inl h1.1
  · rcases h1 with h1 | h1
    · rcases h1 with h1 | ⟨_, h1⟩ <;> cases h1
    · exact .inr h1
/-- a list's own place -/
theorem RepV.lst (R : RelH T H m S) {d : D} {v : V} {xs : List D} (h : RepV T H m d v) (e : lstOf d S = some xs) : ∃ a vs, v = .ref a ∧ H a = some (.lst vs) ∧ RepL T H m xs vs := by
  cases d with
  | lv ds =>
    obtain ⟨a, vs, rfl, h1, h2⟩ := h
    cases e
    exact ⟨a, vs, rfl, h1.1, h2⟩
  | obj n =>
    obtain ⟨a, rfl, h1⟩ := h
    obtain ⟨o, ho, q⟩ := R.there h1
    simp only [lstOf, ho] at e
    cases o with
    | lst ds =>
      cases e
      obtain ⟨vs, h2, h3⟩ := q
      exact ⟨a, vs, rfl, h2, h3⟩
    | _ => cases e
  | _ => cases e
theorem truD_ok (hK : X.K = T.K) (R : RelH T H m S) {d : D} {v : V} {k : Bool} (h : RepV T H m d v) (e : truD d S = some k) : TruV X.K v H k := by
  cases d with
  | non =>
    cases e
    rw [show v = .non from h] <;> rfl
  | bl b =>
    cases e
    rw [show v = .bl _ from h] <;> rfl
  | int i =>
    cases e
    rw [show v = .int _ from h] <;> rfl
  | str x =>
    rw [show v = .str _ from h]
    simp only [truD] at e
    split at e
    · cases e
      exact ⟨by assumption, rfl⟩
    · cases e
  | scr xs => cases e
  | dv ks xs => cases e
  | iv c ns xs => cases e
  | fn k => cases e
  | tup xs =>
    obtain ⟨ys, e1, e2⟩ := Option.map_eq_some_iff.mp (show (seqOf (.tup xs) S).map (fun xs => !xs.isEmpty) = some k from e)
    obtain ⟨a, vs, rfl, h1, h2⟩ := h.seq hK R e1
    subst e2
    rcases h1 with h1 | h1
    · exact .inl ⟨vs, h1, by rw [h2.nil_iff]⟩
    · exact .inr (.inl ⟨vs, h1, by rw [h2.nil_iff]⟩)
  | lv xs =>
    obtain ⟨ys, e1, e2⟩ := Option.map_eq_some_iff.mp (show (seqOf (.lv xs) S).map (fun xs => !xs.isEmpty) = some k from e)
    obtain ⟨a, vs, rfl, h1, h2⟩ := h.seq hK R e1
    subst e2
    rcases h1 with h1 | h1
    · exact .inl ⟨vs, h1, by rw [h2.nil_iff]⟩
    · exact .inr (.inl ⟨vs, h1, by rw [h2.nil_iff]⟩)
  | obj n =>
    obtain ⟨ys, e1, e2⟩ := Option.map_eq_some_iff.mp (show (seqOf (.obj n) S).map (fun xs => !xs.isEmpty) = some k from e)
    obtain ⟨a, vs, rfl, h1, h2⟩ := h.seq hK R e1
    subst e2
    rcases h1 with h1 | h1
    · exact .inl ⟨vs, h1, by rw [h2.nil_iff]⟩
    · exact .inr (.inl ⟨vs, h1, by rw [h2.nil_iff]⟩)

/-! answers -/
theorem Ok.here {d : D} {Q : VK} {E : XK} {v : V} (R : RelH T H m S) (h : Ok T E H m (PV T Q) (.ok d S)) (r : RepV T H m d v) : Q v H := h H m .refl R v r
/-- a new tuple -/
theorem Ok.tup {ds : List D} {Q : VK} {E : XK} {p : Addr} {vs : List V} (R : RelH T H m S) (h : Ok T E H m (PV T Q) (.ok (.tup ds) S)) (hp : H p = none) (r : RepL T H m ds vs) : Q (.ref p) (upd H p (.tup vs)) :=
  h _ m (later_new hp) (R.aside hp) _ ⟨p, vs, rfl, .inl ⟨.inl upd_same, R.new hp⟩, RepL.mono (later_new hp) _ _ r⟩
/-- a new list -/
theorem Ok.lst {ds : List D} {Q : VK} {E : XK} {p : Addr} {vs : List V} {tr : Bool} (R : RelH T H m S) (h : Ok T E H m (PV T Q) (newL tr ds S)) (hp : H p = none) (r : RepL T H m ds vs) : Q (.ref p) (upd H p (.lst vs)) := by
  unfold newL at h
  split at h
  · split at h
    · exact h _ (m ++ [p]) (later_push R hp) (R.push hp ⟨vs, upd_same, RepL.mono (later_push R hp) _ _ r⟩) _ ⟨p, rfl, by rw [← R.len]; simp⟩
    · exact h _ m (later_new hp) (R.aside hp) _ ⟨p, vs, rfl, ⟨upd_same, R.new hp, R.fresh hp⟩, RepL.mono (later_new hp) _ _ r⟩
  · exact h.elim
theorem newL_len {ds : List D} {P : D → Sx → Hp → List Addr → Prop} {E : XK} {tr : Bool} (h : Ok T E H m P (newL tr ds S)) : ds.length ≤ sizeLine := by
  unfold newL at h
  split at h
  · assumption
  · exact h.elim
end

/-! ### the operators -/
def Op.py : Op → Operator
  | .add => .Add
  | .sub => .Sub
  | .mul => .Mult
  | .mod => .Mod
  | .fdiv => .FloorDiv
  | .pow => .Pow
def Cp.py : Cp → CmpOp
  | .eq => .Eq
  | .ne => .NotEq
  | .lt => .Lt
  | .le => .LtE
  | .gt => .Gt
  | .ge => .GtE
  | .is_ => .Is
  | .isn => .IsNot
  | .in_ => .In
  | .nin => .NotIn
section
variable {X : Cx} {T : Tb}
theorem lift_ok {a : Type} {E : XK} {H : Hp} {m : List Addr} {P : a → Sx → Hp → List Addr → Prop} {o : Option a} {S : Sx} (h : Ok T E H m P (lift o S)) : ∃ x, o = some x ∧ Ok T E H m P (.ok x S) := by
  cases o with
  | none => exact h.elim
  | some x => exact ⟨x, rfl, h⟩
theorem cat_ok (hK : X.K = T.K) : OpR X (binaryOp .Add) (r2 T fun d e S => lift (catD d e S) S) := by
  intro pins s σ H x y v u Q I rx ry h
  obtain ⟨d, e, S, m, hd, he, R, h⟩ := h
  obtain ⟨z, ez, h⟩ := lift_ok h
  have lists : ∀ xs ys, lstOf d S = some xs → lstOf e S = some ys → (if xs.length + ys.length ≤ sizeLine then some (D.lv (xs ++ ys)) else none) = some z → wpAny (model X.prog X.w) X.A (binaryOp .Add v u) (EP X pins σ Q) X.xe s := by
    intro xs ys e1 e2 e3
    split at e3
    · rename_i hz
      cases e3
      obtain ⟨a, vs, rfl, h1, h2⟩ := hd.lst R e1
      obtain ⟨b, us, rfl, h3, h4⟩ := he.lst R e2
      refine op_cat pins s σ H _ _ v u Q I rx ry ⟨a, b, vs, us, rfl, rfl, h1, h3, by rw [← h2.len, ← h4.len]; exact hz, fun p hp => ?_⟩
      exact Ok.lst (tr := false) R (by unfold newL; rw [if_pos (by rw [List.length_append]; exact hz)]; exact h) hp (h2.append h4)
    · cases e3
  unfold catD at ez
  split at ez
  · cases ez
    rw [show x = .int _ from hd] at rx
    rw [show y = .int _ from he] at ry
    exact op_add pins s σ H _ _ v u Q I rx ry ⟨_, _, rfl, rfl, h.here R rfl⟩
  · rw [show x = .str _ from hd] at rx
    rw [show y = .str _ from he] at ry
    split at ez
    · cases ez
      exact op_add_str pins s σ H _ _ v u Q I rx ry ⟨_, _, rfl, rfl, by assumption, h.here R rfl⟩
    · cases ez
  · split at ez
    · rename_i hz
      cases ez
      obtain ⟨a, vs, rfl, h1, h2⟩ := hd
      obtain ⟨b, us, rfl, h3, h4⟩ := he
      refine op_catA pins s σ H _ _ v u Q I rx ry ⟨a, b, vs, us, rfl, rfl, h1.sq hK, h3.sq hK, by rw [← h2.len, ← h4.len]; exact hz, fun e => ?_, fun _ e => ?_, fun _ _ p hp => h.tup R hp (h2.append h4)⟩
      · subst e
        have := h2.len
        rw [List.length_nil] at this
        rw [List.eq_nil_of_length_eq_zero this] at h
        exact h.here R ⟨b, us, rfl, h3, h4⟩
      · subst e
        have := h4.len
        rw [List.length_nil] at this
        rw [List.eq_nil_of_length_eq_zero this, List.append_nil] at h
        exact h.here R ⟨a, vs, rfl, h1, h2⟩
    · cases ez
  · split at ez
    · rename_i xs ys e1 e2
      exact lists xs ys e1 e2 ez
    · cases ez
theorem op_ok (hK : X.K = T.K) (o : Op) : OpR X (binaryOp o.py) (r2 T fun d e S => lift (opD o d e S) S) := by
  cases o with
  | add => exact cat_ok hK
  | sub =>
    intro pins s σ H x y v u Q I rx ry h
    obtain ⟨d, e, S, m, hd, he, R, h⟩ := h
    obtain ⟨z, ez, h⟩ := lift_ok h
    simp only [opD] at ez
    split at ez
    · cases ez
      rw [show x = .int _ from hd] at rx
      rw [show y = .int _ from he] at ry
      exact op_sub pins s σ H _ _ v u Q I rx ry ⟨_, _, rfl, rfl, h.here R rfl⟩
    · cases ez
  | mul =>
    intro pins s σ H x y v u Q I rx ry h
    obtain ⟨d, e, S, m, hd, he, R, h⟩ := h
    obtain ⟨z, ez, h⟩ := lift_ok h
    simp only [opD] at ez
    split at ez
    · rw [show x = .int _ from hd] at rx
      rw [show y = .int _ from he] at ry
      split at ez
      · cases ez
        exact op_mul pins s σ H _ _ v u Q I rx ry ⟨_, _, rfl, rfl, by assumption, h.here R rfl⟩
      · cases ez
    · cases ez
  | mod =>
    intro pins s σ H x y v u Q I rx ry h
    obtain ⟨d, e, S, m, hd, he, R, h⟩ := h
    obtain ⟨z, ez, h⟩ := lift_ok h
    simp only [opD] at ez
    split at ez
    · rw [show x = .int _ from hd] at rx
      rw [show y = .int _ from he] at ry
      split at ez
      · cases ez
        exact op_mod pins s σ H _ _ v u Q I rx ry ⟨_, _, rfl, rfl, by assumption, h.here R rfl⟩
      · cases ez
    · cases ez
  | fdiv =>
    intro pins s σ H x y v u Q I rx ry h
    obtain ⟨d, e, S, m, hd, he, R, h⟩ := h
    obtain ⟨z, ez, h⟩ := lift_ok h
    simp only [opD] at ez
    split at ez
    · rw [show x = .int _ from hd] at rx
      rw [show y = .int _ from he] at ry
      split at ez
      · cases ez
        exact op_fdiv pins s σ H _ _ v u Q I rx ry ⟨_, _, rfl, rfl, by assumption, h.here R rfl⟩
      · cases ez
    · cases ez
  | pow =>
    intro pins s σ H x y v u Q I rx ry h
    obtain ⟨d, e, S, m, hd, he, R, h⟩ := h
    obtain ⟨z, ez, h⟩ := lift_ok h
    simp only [opD] at ez
    split at ez
    · rw [show x = .int _ from hd] at rx
      rw [show y = .int _ from he] at ry
      split at ez
      · cases ez
        exact op_pow pins s σ H _ _ v u Q I rx ry ⟨_, _, rfl, rfl, by assumption, h.here R rfl⟩
      · cases ez
    · cases ez
theorem neg_ok : UnR X (unaryOp .USub) (r1 T fun d S => lift (negD d) S) := by
  intro pins s σ H x v Q I rx h
  obtain ⟨d, S, m, hd, R, h⟩ := h
  obtain ⟨z, ez, h⟩ := lift_ok h
  cases d with
  | int i =>
    cases ez
    rw [show x = .int _ from hd] at rx
    exact un_neg pins s σ H _ v Q I rx ⟨_, rfl, h.here R rfl⟩
  | _ => cases ez
end
end TK
end
section
set_option autoImplicit false
set_option linter.all false
set_option maxRecDepth 100000
namespace TK
open PySem L2 PySem.Spec PyProof.Rows

section
variable {X : Cx} {T : Tb} {H : Hp} {m : List Addr} {S : Sx}
mutual
theorem dp_of (hK : X.K = T.K) : ∀ (d : D) (v : V) (p : PyData), RepV T H m d v → toPy d = some p → Dp X.K H v p
  | .non, v, p, h, e => by
    cases e
    rw [show v = .non from h]
    exact .non
  | .bl b, v, p, h, e => by
    cases e
    rw [show v = .bl b from h]
    exact .bl b
  | .int i, v, p, h, e => by
    cases e
    rw [show v = .int i from h]
    exact .int i
  | .str x, v, p, h, e => by
    cases e
    rw [show v = .str x from h]
    exact .str x
  | .scr xs, v, p, h, e => by cases e
  | .tup ds, v, p, h, e => by
    obtain ⟨a, vs, rfl, h1, h2⟩ := h
    simp only [toPy] at e
    obtain ⟨ps, e1, rfl⟩ := Option.map_eq_some_iff.mp e
    exact .tup (h1.sq hK) (dps_of hK ds vs ps h2 e1)
  | .lv ds, v, p, h, e => by
    obtain ⟨a, vs, rfl, h1, h2⟩ := h
    simp only [toPy] at e
    obtain ⟨ps, e1, rfl⟩ := Option.map_eq_some_iff.mp e
    exact .lst (.inl (.inl h1.1)) (dps_of hK ds vs ps h2 e1)
  | .dv ks ds, v, p, h, e => by cases e
  | .iv c ns ds, v, p, h, e => by cases e
  | .obj n, v, p, h, e => by cases e
  | .fn k, v, p, h, e => by cases e
theorem dps_of (hK : X.K = T.K) : ∀ (ds : List D) (vs : List V) (ps : List PyData), RepL T H m ds vs → toPys ds = some ps → DpAll X.K H vs ps
  | [], vs, ps, h, e => by
    cases e
    rw [show vs = [] from h]
    exact .nil
  | d :: ds, vs, ps, h, e => by
    obtain ⟨v, r, rfl, h1, h2⟩ := h
    simp only [toPys] at e
    split at e
    · rename_i y ys e1 e2
      cases e
      exact .cons (dp_of hK d v y h1 e1) (dps_of hK ds r ys h2 e2)
    · cases e
end
theorem dp_ofS (hK : X.K = T.K) (R : RelH T H m S) {d : D} {v : V} {p : PyData} (h : RepV T H m d v) (e : pyOf d S = some p) : Dp X.K H v p := by
  cases d with
  | obj n =>
    obtain ⟨a, rfl, h1⟩ := h
    obtain ⟨o, ho, q⟩ := R.there h1
    simp only [pyOf, ho] at e
    cases o with
    | lst ds =>
      obtain ⟨ps, e1, rfl⟩ := Option.map_eq_some_iff.mp e
      obtain ⟨vs, h2, h3⟩ := q
      exact .lst (.inl (.inl h2)) (dps_of hK ds vs ps h3 e1)
    | _ => cases e
  | _ => exact dp_of hK _ v p h e
end

/-! ### comparisons -/
section
variable {X : Cx} {T : Tb}
theorem eq_ok (hK : X.K = T.K) (hu : X.A.units + 64 < cLine) : OpR X (compareOp .Eq) (r2 T fun d e S => (lift (eqD d e S) S).bind fun b S => .ok (.bl b) S) := by
  intro pins s σ H x y v u Q I rx ry h
  obtain ⟨d, e, S, m, hd, he, R, h⟩ := h
  obtain ⟨z, ez, h⟩ := lift_ok h.bind
  have h := h H m .refl R
  unfold eqD at ez
  split at ez
  · rename_i p q e1 e2
    split at ez
    · rename_i hs
      cases ez
      obtain ⟨s1, s2⟩ := Bool.and_eq_true_iff.mp hs
      exact op_eqD hu pins s σ H x y v u Q I rx ry ⟨p, q, dp_ofS hK R hd e1, dp_ofS hK R he e2, s1, s2, Ok.here R h rfl⟩
    · cases ez
  · cases ez
theorem ne_ok (hK : X.K = T.K) (hu : X.A.units + 64 < cLine) : OpR X (compareOp .NotEq) (r2 T fun d e S => (lift ((eqD d e S).map (!·)) S).bind fun b S => .ok (.bl b) S) := by
  intro pins s σ H x y v u Q I rx ry h
  obtain ⟨d, e, S, m, hd, he, R, h⟩ := h
  obtain ⟨z, ez, h⟩ := lift_ok h.bind
  have h := h H m .refl R
  obtain ⟨z', ez, ezz⟩ := Option.map_eq_some_iff.mp ez
  unfold eqD at ez
  split at ez
  · rename_i p q e1 e2
    split at ez
    · rename_i hs
      cases ez
      subst ezz
      obtain ⟨s1, s2⟩ := Bool.and_eq_true_iff.mp hs
      exact op_neD hu pins s σ H x y v u Q I rx ry ⟨p, q, dp_ofS hK R hd e1, dp_ofS hK R he e2, s1, s2, Ok.here R h rfl⟩
    · cases ez
  · cases ez
/-- x in a tuple, a list, by data -/
theorem inT_ok (hu : X.A.units + 65 < cLine) {pins : List (Addr × Obj)} {s : Shared} {σ : L2.St} {H : Hp} {x y : V} {v u : Value} {Q : VK} {p : PyData} {ps : List PyData} (neg : Bool) (I : Inv X pins σ H s) (rx : L2.RelV x v) (ry : L2.RelV y u)
    (hx : Dp X.K H x p) (hy : Dp X.K H y (.tuple ps) ∨ Dp X.K H y (.list ps)) (s1 : SeqAt.shaped p = true) (s2 : SeqAt.shaped (.list ps) = true)
    (q : Q (.bl (if neg = true then !ps.any fun z => PyData.eqv z p else ps.any fun z => PyData.eqv z p)) H) : wpAny (model X.prog X.w) X.A (compareOp (if neg = true then .NotIn else .In) v u) (EP X pins σ Q) X.xe s := by
  obtain ⟨as, r1⟩ := Dp.reads I p x v hx rx
  rcases hy with hy | hy
  · obtain ⟨bs, r2⟩ := Dp.reads I (.tuple ps) y u hy ry
    cases neg with
    | true => exact SeqAt.notIn_tuple_reads r2 r1 (SeqAt.canLay_of_shaped s2) (SeqAt.canLay_of_shaped s1) (room_in_shaped s1 hu) ⟨.bl _, H, I, rfl, q⟩
    | false => exact SeqAt.in_tuple_reads r2 r1 (SeqAt.canLay_of_shaped s2) (SeqAt.canLay_of_shaped s1) (room_in_shaped s1 hu) ⟨.bl _, H, I, rfl, q⟩
  · cases neg with
    | true => exact op_notInD hu pins s σ H x y v u Q I rx ry ⟨p, ps, hx, hy, s1, s2, q⟩
    | false => exact op_inD hu pins s σ H x y v u Q I rx ry ⟨p, ps, hx, hy, s1, s2, q⟩
theorem in_ok (hK : X.K = T.K) (hu : X.A.units + 65 < cLine) (neg : Bool) : OpR X (compareOp (if neg = true then .NotIn else .In)) (r2 T fun d e S => (lift (if neg = true then (inD d e S).map (!·) else inD d e S) S).bind fun b S => .ok (.bl b) S) := by
  intro pins s σ H x y v u Q I rx ry h
  obtain ⟨d, e, S, m, hd, he, R, h⟩ := h
  obtain ⟨z, ez, h⟩ := lift_ok h.bind
  have h := h H m .refl R
  obtain ⟨z', e1, e2⟩ : ∃ z', inD d e S = some z' ∧ z = if neg = true then !z' else z' := by
    cases neg with
    | true =>
      obtain ⟨z', q1, q2⟩ := Option.map_eq_some_iff.mp ez
      exact ⟨z', q1, q2.symm⟩
    | false => exact ⟨z, ez, rfl⟩
  have flat : ∀ xs, inD.inL d xs S = some z' → (∀ ps, toPys xs = some ps → Dp X.K H y (.tuple ps) ∨ Dp X.K H y (.list ps)) → wpAny (model X.prog X.w) X.A (compareOp (if neg = true then .NotIn else .In) v u) (EP X pins σ Q) X.xe s := by
    intro xs e3 hy
    unfold inD.inL at e3
    split at e3
    · rename_i p ps q1 q2
      split at e3
      · rename_i hs
        cases e3
        obtain ⟨s1, s2⟩ := Bool.and_eq_true_iff.mp hs
        refine inT_ok hu neg I rx ry (dp_ofS hK R hd q1) (hy ps q2) s1 s2 ?_
        subst e2
        exact Ok.here R h rfl
      · cases e3
    · cases e3
  cases e with
  | obj n =>
    have he0 := he
    obtain ⟨a, rfl, h1⟩ := he
    obtain ⟨o, ho, q⟩ := R.there h1
    simp only [inD, ho] at e1
    cases o with
    | lst xs => exact flat xs e1 fun ps q2 => .inr (dp_ofS hK R he0 (by simp [pyOf, ho, q2]))
    | dn ks ds => exact q.elim
    | sn ks => exact q.elim
    | _ => cases e1
  | tup xs => exact flat xs e1 fun ps q2 => .inl (dp_of hK _ y _ he (by simp [toPy, q2]))
  | lv xs => exact flat xs e1 fun ps q2 => .inr (dp_of hK _ y _ he (by simp [toPy, q2]))
  | _ => cases e1
theorem cmpI_ok {op : CmpOp} {f : Int → Int → Bool} {g : D → D → Option Bool} (rule : OpR X (compareOp op) (rI0 fun i j => .bl (f i j))) (hg : ∀ d e b, g d e = some b → ∃ i j, d = .int i ∧ e = .int j ∧ b = f i j) :
    OpR X (compareOp op) (r2 T fun d e S => (lift (g d e) S).bind fun b S => .ok (.bl b) S) := by
  intro pins s σ H x y v u Q I rx ry h
  obtain ⟨d, e, S, m, hd, he, R, h⟩ := h
  obtain ⟨z, ez, h⟩ := lift_ok h.bind
  have h := h H m .refl R
  obtain ⟨i, j, rfl, rfl, rfl⟩ := hg d e z ez
  rw [show x = .int _ from hd] at rx
  rw [show y = .int _ from he] at ry
  exact rule pins s σ H _ _ v u Q I rx ry ⟨_, _, rfl, rfl, Ok.here R h rfl⟩
theorem RepV.isN {H : Hp} {m : List Addr} {d : D} {v : V} (h : RepV T H m d v) : decide (v = .non) = decide (d = .non) := by
  cases d with
  | non => rw [show v = .non from h]; simp
  | bl b => rw [show v = .bl b from h]; simp
  | int b => rw [show v = .int b from h]; simp
  | str b => rw [show v = .str b from h]; simp
  | fn b => rw [show v = .ref _ from h]; simp
  | scr _ => obtain ⟨a, rfl, _⟩ := h; simp
  | tup _ => obtain ⟨a, _, rfl, _⟩ := h; simp
  | lv _ => obtain ⟨a, _, rfl, _⟩ := h; simp
  | dv _ _ => obtain ⟨a, _, rfl, _⟩ := h; simp
  | iv _ _ _ => obtain ⟨a, _, _, rfl, _⟩ := h; simp
  | obj _ => obtain ⟨a, rfl, _⟩ := h; simp
theorem cmp_ok (hK : X.K = T.K) (hu : X.A.units + 65 < cLine) (o : Cp) : OpR X (compareOp o.py) (r2 T fun d e S => (lift (cmpD o d e S) S).bind fun b S => .ok (.bl b) S) := by
  cases o with
  | eq => exact eq_ok hK (by omega)
  | ne => exact ne_ok hK (by omega)
  | lt =>
    refine cmpI_ok (g := fun d e => cmpD .lt d e []) op_lt fun d e b h => ?_
    simp only [cmpD] at h
    split at h
    · cases h; exact ⟨_, _, rfl, rfl, rfl⟩
    · cases h
  | le =>
    refine cmpI_ok (g := fun d e => cmpD .le d e []) op_le fun d e b h => ?_
    simp only [cmpD] at h
    split at h
    · cases h; exact ⟨_, _, rfl, rfl, rfl⟩
    · cases h
  | gt =>
    refine cmpI_ok (g := fun d e => cmpD .gt d e []) op_gt fun d e b h => ?_
    simp only [cmpD] at h
    split at h
    · cases h; exact ⟨_, _, rfl, rfl, rfl⟩
    · cases h
  | ge =>
    refine cmpI_ok (g := fun d e => cmpD .ge d e []) op_ge fun d e b h => ?_
    simp only [cmpD] at h
    split at h
    · cases h; exact ⟨_, _, rfl, rfl, rfl⟩
    · cases h
  | is_ =>
    intro pins s σ H x y v u Q I rx ry h
    obtain ⟨d, e, S, m, hd, he, R, h⟩ := h
    obtain ⟨z, ez, h⟩ := lift_ok h.bind
    have h := h H m .refl R
    simp only [cmpD] at ez
    split at ez
    · cases ez
      refine op_isN pins s σ H x y v u Q I rx ry ⟨he, ?_⟩
      rw [hd.isN]
      exact Ok.here R h rfl
    · cases ez
  | isn =>
    intro pins s σ H x y v u Q I rx ry h
    obtain ⟨d, e, S, m, hd, he, R, h⟩ := h
    obtain ⟨z, ez, h⟩ := lift_ok h.bind
    have h := h H m .refl R
    simp only [cmpD] at ez
    split at ez
    · cases ez
      refine op_notN pins s σ H x y v u Q I rx ry ⟨he, ?_⟩
      rw [hd.isN]
      exact Ok.here R h rfl
    · cases ez
  | in_ => exact in_ok hK hu false
  | nin => exact in_ok hK hu true
end

/-! ### items, slices -/
section
variable {X : Cx} {T : Tb}
theorem seq_cases {d : D} {S : Sx} {xs : List D} (e : seqOf d S = some xs) : d = .tup xs ∨ lstOf d S = some xs := by
  cases d with
  | tup ds =>
    cases e
    exact .inl rfl
  | lv ds => exact .inr e
  | obj n => exact .inr e
  | _ => cases e
theorem ix_ok (hK : X.K = T.K) : IxR X (r2 T fun d e S => lift (ixD d e S) S) := by
  intro value slice pins s σ H x y v u Q I rx ry h0 hs
  obtain ⟨d, e, S, m, hd, he, R, h1⟩ := h0
  obtain ⟨z, ez, h⟩ := lift_ok h1
  clear h1
  unfold ixD at ez
  split at ez
  · rename_i i
    split at ez
    · rename_i zs
      split at ez
      · rename_i hz
        obtain ⟨c, e1, rfl⟩ := Option.map_eq_some_iff.mp ez
        exact ix_str value slice pins s σ H x y v u Q I rx ry ⟨zs, i, c, hd, he, hz, e1, h.here R rfl⟩ hs
      · cases ez
    · obtain ⟨xs, e1, e2⟩ := Option.bind_eq_some_iff.mp ez
      obtain ⟨a, vs, rfl, k1, k2⟩ := hd.seq hK R e1
      obtain ⟨w, k3, k4⟩ := k2.at_ e2
      rcases k1 with k1 | k1
      · exact ix_list value slice pins s σ H _ y v u Q I rx ry ⟨a, vs, i, w, rfl, he, k1, k3, h.here R k4⟩ hs
      · exact ix_tup value slice pins s σ H _ y v u Q I rx ry ⟨a, vs, i, w, rfl, he, k1, k3, h.here R k4⟩ hs
  · cases ez
theorem cut_rep {H : Hp} {m : List Addr} {xs : List D} {vs : List V} (h : RepL T H m xs vs) (lo hi : Option Int) : RepL T H m (cutD xs lo hi) (cutV vs lo hi) := by
  unfold cutD cutV
  rw [h.len]
  exact (h.drop _).take _
/-- a slice of a tuple, a list -/
def rS (T : Tb) (g : D → Option Int → Option Int → Sx → R D) : V → Option Int → Option Int → Hp → VK → Prop := fun x lo hi H Q => ∃ d S m, RepV T H m d x ∧ RelH T H m S ∧ Ok T (fun _ _ _ => False) H m (PV T Q) (g d lo hi S)
theorem slc_ok (hK : X.K = T.K) : SlR X (rS T fun d lo hi S => lift (slcD d lo hi S) S) := by
  intro pins s σ H x v vl vu lo hi sl Q I rx hs pl pu h0
  obtain ⟨d, S, m, hd, R, h1⟩ := h0
  obtain ⟨z, ez, h⟩ := lift_ok h1
  clear h1
  have lists : ∀ xs, lstOf d S = some xs → z = .lv (cutD xs lo hi) → rSlL X.K x lo hi H Q := by
    intro xs e1 e2
    subst e2
    obtain ⟨a, vs, rfl, h1, h2⟩ := hd.lst R e1
    refine ⟨a, vs, rfl, .inl (.inl h1), fun p hp => ?_⟩
    exact h _ m (later_new hp) (R.aside hp) _ ⟨p, _, rfl, ⟨upd_same, R.new hp, R.fresh hp⟩, RepL.mono (later_new hp) _ _ (cut_rep h2 lo hi)⟩
  unfold slcD at ez
  split at ez
  · rename_i xs
    cases ez
    obtain ⟨a, vs, rfl, h1, h2⟩ := hd
    refine sl_tupA pins s σ H _ v vl vu lo hi sl Q I rx hs pl pu ⟨a, vs, rfl, h1.sq hK, fun e => ?_, fun _ p hp => h.tup R hp (cut_rep h2 lo hi)⟩
    have e2 : cutD xs lo hi = xs := by
      unfold cutD
      rw [h2.len, e.1, e.2, List.drop_zero, Nat.sub_zero, ← h2.len, List.take_length]
    rw [e2] at h
    exact h.here R ⟨a, vs, rfl, h1, h2⟩
  · obtain ⟨xs, e1, e2⟩ := Option.map_eq_some_iff.mp ez
    exact sl_list pins s σ H x v vl vu lo hi sl Q I rx hs pl pu (lists xs e1 e2.symm)
end

/-! ### calls of built-ins -/
section
variable {X : Cx} {T : Tb}
def g1 (f : D → Sx → R D) : List D → Sx → R D := fun ds S => match ds with
  | [d] => f d S
  | _ => .bad
def g2 (f : D → D → Sx → R D) : List D → Sx → R D := fun ds S => match ds with
  | [d, e] => f d e S
  | _ => .bad
theorem rL1 {f : D → Sx → R D} {xs : List V} {H : Hp} {Q : VK} (h : rL T (g1 f) xs H Q) : ∃ x, xs = [x] ∧ r1 T f x H Q := by
  obtain ⟨ds, S, m, hd, R, h⟩ := h
  match ds, hd, h with
  | [d], ⟨v, r, e, h1, h2⟩, h =>
    rw [show r = [] from h2] at e
    exact ⟨v, e, d, S, m, h1, R, h⟩
theorem rL2 {f : D → D → Sx → R D} {xs : List V} {H : Hp} {Q : VK} (h : rL T (g2 f) xs H Q) : ∃ x y, xs = [x, y] ∧ r2 T f x y H Q := by
  obtain ⟨ds, S, m, hd, R, h⟩ := h
  match ds, hd, h with
  | [d, e], ⟨v, r, e1, h1, u, r', e2, h2, h3⟩, h =>
    rw [show r' = [] from h3] at e2
    rw [e2] at e1
    exact ⟨v, u, e1, d, e, S, m, h1, h2, R, h⟩
theorem len_ok (hK : X.K = T.K) : CallR X (.builtin "len") (rL T (g1 (b1D .len))) := by
  intro pins s σ H xs us Q I rx h0
  obtain ⟨x, rfl, d, S, m, hd, R, h⟩ := rL1 h0
  clear h0
  simp only [b1D] at h
  split at h
  · rename_i z
    split at h
    · rename_i hz
      rw [show x = .str z from hd] at rx
      exact call_len_str pins s σ H _ us Q I rx ⟨z, rfl, hz, h.here R rfl⟩
    · exact h.elim
  · split at h
    · rename_i ys e1
      obtain ⟨a, vs, rfl, h1, h2⟩ := hd.seq hK R e1
      refine call_len_seq pins s σ H _ us Q I rx ⟨a, vs, rfl, h1, ?_⟩
      rw [← h2.len]
      exact h.here R rfl
    · exact h.elim
theorem tuple_ok (hK : X.K = T.K) : CallR X (.type "tuple") (rL T (g1 (b1D .tuple))) := by
  intro pins s σ H xs us Q I rx h0
  obtain ⟨x, rfl, d, S, m, hd, R, h⟩ := rL1 h0
  clear h0
  simp only [b1D] at h
  split at h
  · rename_i ys e1
    rcases seq_cases e1 with rfl | e2
    · obtain ⟨a, vs, rfl, h1, h2⟩ := hd
      exact call_tuple_of pins s σ H _ us Q I rx ⟨a, vs, rfl, .inr ⟨h1.sq hK, h.here R ⟨a, vs, rfl, h1, h2⟩⟩⟩
    · obtain ⟨a, vs, rfl, h1, h2⟩ := hd.lst R e2
      exact call_tuple_of pins s σ H _ us Q I rx ⟨a, vs, rfl, .inl ⟨.inl (.inl h1), fun p hp => h.tup R hp h2⟩⟩
  · exact h.elim
theorem list_ok (hK : X.K = T.K) (tr : Bool) : CallR X (.type "list") (rL T (g1 (b1D (.list tr)))) := by
  intro pins s σ H xs us Q I rx h0
  obtain ⟨x, rfl, d, S, m, hd, R, h⟩ := rL1 h0
  clear h0
  simp only [b1D] at h
  split at h
  · rename_i ys
    obtain ⟨a, rfl, h1⟩ := hd
    exact call_list_of pins s σ H _ us Q I rx ⟨a, _, rfl, .inl (h1.sq hK), fun p hp => h.lst R hp (RepL.of_ints ys)⟩
  · split at h
    · rename_i ys e1
      obtain ⟨a, vs, rfl, h1, h2⟩ := hd.seq hK R e1
      exact call_list_of pins s σ H _ us Q I rx ⟨a, vs, rfl, h1, fun p hp => h.lst R hp h2⟩
    · exact h.elim
end
end TK
end
section
set_option autoImplicit false
set_option linter.all false
set_option maxRecDepth 100000
namespace TK
open PySem L2 PySem.Spec PyProof.Rows

section
variable {X : Cx} {T : Tb} {W : WX} {a b c o i : Expr} {fa fb fc : Vs → Sx → R D} {ta tb tc : Vs → Sx → R Bool} {pos apos : Pos}

/-! ### more built-ins -/
theorem int_ok : CallR X (.type "int") (rL T (g1 (b1D .int))) := by
  intro pins s σ H xs us Q I rx h0
  obtain ⟨x, rfl, d, S, m, hd, R, h⟩ := rL1 h0
  clear h0
  simp only [b1D] at h
  split at h
  · exact call_int1 pins s σ H _ us Q I rx (.inl ⟨_, by rw [show x = .int _ from hd], h.here R rfl⟩)
  · exact call_int1 pins s σ H _ us Q I rx (.inr ⟨_, by rw [show x = .bl _ from hd], h.here R rfl⟩)
  · split at h
    · rename_i n e
      split at h
      · exact call_int_str pins s σ H _ us Q I rx ⟨_, n, by rw [show x = .str _ from hd], e, by assumption, h.here R rfl⟩
      · exact h.elim
    · exact h.elim
  · exact h.elim
theorem str_ok : CallR X (.type "str") (rL T (g1 (b1D .str))) := by
  intro pins s σ H xs us Q I rx h0
  obtain ⟨x, rfl, d, S, m, hd, R, h⟩ := rL1 h0
  clear h0
  simp only [b1D] at h
  split at h
  · split at h
    · exact call_str_int pins s σ H _ us Q I rx ⟨_, by rw [show x = .int _ from hd], by assumption, h.here R rfl⟩
    · exact h.elim
  · exact h.elim
theorem max_ok (hc : X.calm = true) : CallR X (.builtin "max") (rL T (g2 fun d e S => lift (mmD true d e) S)) := by
  intro pins s σ H xs us Q I rx h0
  obtain ⟨x, y, rfl, d, e, S, m, hd, he, R, h1⟩ := rL2 h0
  clear h0
  obtain ⟨z, ez, h⟩ := lift_ok h1
  clear h1
  unfold mmD at ez
  split at ez
  · cases ez
    exact call_max2 hc pins s σ H _ us Q I rx ⟨_, _, by rw [show x = .int _ from hd, show y = .int _ from he], h.here R rfl⟩
  · cases ez
theorem min_ok (hc : X.calm = true) : CallR X (.builtin "min") (rL T (g2 fun d e S => lift (mmD false d e) S)) := by
  intro pins s σ H xs us Q I rx h0
  obtain ⟨x, y, rfl, d, e, S, m, hd, he, R, h1⟩ := rL2 h0
  clear h0
  obtain ⟨z, ez, h⟩ := lift_ok h1
  clear h1
  unfold mmD at ez
  split at ez
  · cases ez
    exact call_min2 hc pins s σ H _ us Q I rx ⟨_, _, by rw [show x = .int _ from hd, show y = .int _ from he], h.here R rfl⟩
  · cases ez
theorem tyN_ok (hK : X.K = T.K) {H : Hp} {m : List Addr} {S : Sx} (R : RelH T H m S) {d : D} {v : V} {n : String} (h : RepV T H m d v) (e : tyN d S = some n) : TyX X.K H v (.type n) := by
  cases d with
  | non => cases e; rw [show v = .non from h]; exact .base .non
  | bl b => cases e; rw [show v = .bl b from h]; exact .base (.bl b)
  | int i => cases e; rw [show v = .int i from h]; exact .base (.int i)
  | str x => cases e; rw [show v = .str x from h]; exact .base (.str x)
  | tup ds =>
    cases e
    obtain ⟨a, vs, rfl, h1, _⟩ := h
    rcases h1 with h1 | h1
    · rcases h1.1 with h2 | ⟨ob, h2⟩
      · exact .base (.tup h2)
      · exact .fTuple h2
    · rcases h1 with h1 | ⟨ob, its, n, h2, h3, _⟩
      · rcases h1 with h1 | ⟨_, h1⟩ <;> cases h1
      · rw [hK]
        exact .kTuple h2 h3
  | lv ds =>
    cases e
    obtain ⟨a, vs, rfl, h1, _⟩ := h
    exact .base (.lst h1.1)
  | obj k =>
    obtain ⟨a, rfl, h1⟩ := h
    obtain ⟨ob, ho, q⟩ := R.there h1
    simp only [tyN, ho] at e
    cases ob with
    | lst xs =>
      cases e
      obtain ⟨vs, h2, _⟩ := q
      exact .base (.lst h2)
    | _ => cases e
  | _ => cases e

/-! ### expressions -/
theorem s_bin (hK : X.K = T.K) (op : Op) (ha : PE X a (rdE T W fa)) (hb : PE X b (rdE T W fb)) : PE X (.BinOp a op.py b pos) (rdE T W fun s S => (fa s S).bind fun x S => (fb s S).bind fun y S => lift (opD op x y S) S) :=
  PE_imp (pe_op (op_ok hK op) ha hb) fun σ H Q h => rd_bin (fun d e S => nx_lift _ S) h
theorem s_neg (ha : PE X a (rdE T W fa)) : PE X (.UnaryOp .USub a pos) (rdE T W fun s S => (fa s S).bind fun x S => lift (negD x) S) :=
  PE_imp (pe_un neg_ok ha) fun σ H Q h => rd_un (fun d S => nx_lift _ S) h
theorem s_not (hK : X.K = T.K) (ha : PE X a (rdE T W fa)) : PE X (.UnaryOp .Not a pos) (rdE T W fun s S => (fa s S).bind fun x S => (lift (truD x S) S).bind fun b S => .ok (.bl (!b)) S) :=
  PE_imp (pe_notT ha) fun σ H Q ⟨s, S, m, hs, hS, h⟩ => ⟨s, S, m, hs, hS, h.bind.mono fun d S1 H1 m1 L1 R1 q v rv => by
    obtain ⟨k, ek, q⟩ := lift_ok q.bind
    exact ⟨k, truD_ok hK R1 rv ek, (q H1 m1 .refl R1).here R1 rfl⟩⟩
theorem s_notT (ha : PT X a (rdT T W ta)) : PT X (.UnaryOp .Not a pos) (rdT T W fun s S => (ta s S).bind fun b S => .ok (!b) S) :=
  PT_imp (pt_not ha) fun σ H Q ⟨s, S, m, hs, hS, h⟩ => ⟨s, S, m, hs, hS, h.bind.mono fun d S1 H1 m1 L1 R1 q => q H1 m1 .refl R1⟩
/-- a test of any value -/
theorem s_truth (hK : X.K = T.K) (ha : PE X a (rdE T W fa)) (he : ∀ whole, isTrue a X.env whole = (do let v ← whole; standAt a.pos; holding [v] (truthy v))) : PT X a (rdT T W (tstOf fa)) :=
  PT_imp (pt_truth ha he) fun σ H Q ⟨s, S, m, hs, hS, h⟩ => ⟨s, S, m, hs, hS, h.bind.mono fun d S1 H1 m1 L1 R1 q v rv => by
    obtain ⟨k, ek, q⟩ := lift_ok q
    exact ⟨k, truD_ok hK R1 rv ek, q H1 m1 .refl R1⟩⟩
/-- a test of a comparison, by its value -/
theorem s_tst {t : Vs → Sx → R Bool} {e : Expr} {u : TE} (hu : PT X e (tTest u)) (w : ∀ σ H Q, rdE T W (fun s S => (t s S).bind fun b S => .ok (.bl b) S) σ H Q → u σ H Q) : PT X e (rdT T W t) :=
  PT_imp hu fun σ H Q ⟨s, S, m, hs, hS, h⟩ => w σ H _ ⟨s, S, m, hs, hS, by
    show Ok T _ H m _ ((t s S).bind _)
    cases e : t s S with
    | ok k S1 =>
      rw [e] at h
      rw [R.bind_ok]
      intro H1 m1 L1 R1 v rv
      exact ⟨k, rv, h H1 m1 L1 R1⟩
    | exc c v S1 =>
      rw [e] at h
      exact h
    | bad =>
      rw [e] at h
      exact h.elim⟩
theorem bind_assoc {x y z : Type} (r : R x) (f : x → Sx → R y) (g : y → Sx → R z) : (r.bind f).bind g = r.bind fun a S => (f a S).bind g := by
  cases r <;> rfl
theorem rd_cmp {op : Cp} {σ : L2.St} {H : Hp} {Q : VK} (h : rdE T W (fun s S => ((fa s S).bind fun x S => (fb s S).bind fun y S => lift (cmpD op x y S) S).bind fun b S => .ok (.bl b) S) σ H Q) :
    tOp (r2 T fun d e S => (lift (cmpD op d e S) S).bind fun b S => .ok (.bl b) S) (rdE T W fa) (rdE T W fb) σ H Q := by
  refine rd_bin (fun d e S c v S' q => ?_) ?_
  · cases z : cmpD op d e S with
    | none => rw [z] at q; cases q
    | some k => rw [z] at q; cases q
  · simp only [bind_assoc] at h
    exact h
theorem s_cmp (hK : X.K = T.K) (hu : X.A.units + 65 < cLine) (op : Cp) (hm : behindInMarks op.py b = false) (ha : PE X a (rdE T W fa)) (hb : PE X b (rdE T W fb)) :
    PE X (.Compare a [op.py] [b] pos) (rdE T W (mkB fun s S => (fa s S).bind fun x S => (fb s S).bind fun y S => lift (cmpD op x y S) S).val) ∧
    PT X (.Compare a [op.py] [b] pos) (rdT T W (mkB fun s S => (fa s S).bind fun x S => (fb s S).bind fun y S => lift (cmpD op x y S) S).tst) :=
  ⟨PE_imp (pe_cmpR (cmp_ok hK hu op) ha hb hm) fun σ H Q h => rd_cmp h, s_tst (pt_cmpR (cmp_ok hK hu op) ha hb hm) fun σ H Q h => rd_cmp h⟩
theorem rd_chain {op op' : Cp} {σ : L2.St} {H : Hp} {Q : VK} (h : rdE T W (fun s S => ((fa s S).bind fun x S => (fb s S).bind fun y S => (lift (cmpD op x y S) S).bind fun t S => if t = true then (fc s S).bind fun z S => lift (cmpD op' y z S) S else .ok false S).bind fun b S => .ok (.bl b) S) σ H Q) :
    tChain (r2 T fun d e S => (lift (cmpD op d e S) S).bind fun b S => .ok (.bl b) S) (r2 T fun d e S => (lift (cmpD op' d e S) S).bind fun b S => .ok (.bl b) S) (rdE T W fa) (rdE T W fb) (rdE T W fc) σ H Q := by
  obtain ⟨s, S, m, hs, hS, h⟩ := h
  simp only [bind_assoc] at h
  refine ⟨s, S, m, hs, hS, h.bind.mono fun d S1 H1 m1 L1 R1 q v rv => ?_⟩
  refine ⟨s, S1, m1, hs.mono L1, R1, q.bind.mono fun e S2 H2 m2 L2 R2 q2 u ru => ?_⟩
  obtain ⟨k, ek, q3⟩ := lift_ok q2.bind
  refine ⟨d, e, S2, m2, RepV.mono L2 d v rv, ru, R2, ?_⟩
  show Ok T _ H2 m2 _ ((lift (cmpD op d e S2) S2).bind _)
  rw [ek, lift_some, R.bind_ok]
  intro H3 m3 L3 R3 z rz
  refine ⟨k, rz, ?_⟩
  have q4 := q3 H3 m3 L3 R3
  cases k with
  | false => exact q4.here R3 rfl
  | true =>
    rw [if_pos rfl, bind_assoc] at q4
    refine ⟨s, S2, m3, ((hs.mono L1).mono L2).mono L3, R3, q4.bind.mono fun g S4 H4 m4 L4 R4 q5 y ry => ?_⟩
    refine ⟨e, g, S4, m4, RepV.mono L4 e u (RepV.mono L3 e u ru), ry, R4, q5.wish ?_⟩
    intro c v S' q
    cases z : cmpD op' e g S4 with
    | none => rw [z] at q; cases q
    | some k => rw [z] at q; cases q
theorem s_chain (hK : X.K = T.K) (hu : X.A.units + 65 < cLine) (op op' : Cp) (hm : lastMarks [op.py, op'.py] [b, c] = false) (ha : PE X a (rdE T W fa)) (hb : PE X b (rdE T W fb)) (hc : PE X c (rdE T W fc)) :
    PE X (.Compare a [op.py, op'.py] [b, c] pos) (rdE T W (mkB fun s S => (fa s S).bind fun x S => (fb s S).bind fun y S => (lift (cmpD op x y S) S).bind fun t S => if t = true then (fc s S).bind fun z S => lift (cmpD op' y z S) S else .ok false S).val) ∧
    PT X (.Compare a [op.py, op'.py] [b, c] pos) (rdT T W (mkB fun s S => (fa s S).bind fun x S => (fb s S).bind fun y S => (lift (cmpD op x y S) S).bind fun t S => if t = true then (fc s S).bind fun z S => lift (cmpD op' y z S) S else .ok false S).tst) :=
  ⟨PE_imp (pe_chain (cmp_ok hK hu op) (cmp_ok hK hu op') ha hb hc hm) fun σ H Q h => rd_chain h, s_tst (pt_chain (cmp_ok hK hu op) (cmp_ok hK hu op') ha hb hc hm) fun σ H Q h => rd_chain h⟩
theorem s_ife (ht : PT X c (rdT T W tc)) (ha : PE X a (rdE T W fa)) (hb : PE X b (rdE T W fb)) : PE X (.IfExp c a b pos) (rdE T W fun s S => (tc s S).bind fun k S => if k = true then fa s S else fb s S) :=
  PE_imp (pe_ifExp ht ha hb) fun σ H Q ⟨s, S, m, hs, hS, h⟩ => ⟨s, S, m, hs, hS, h.bind.mono fun k S1 H1 m1 L1 R1 q => by
    cases k with
    | true => exact ⟨s, S1, m1, hs.mono L1, R1, q⟩
    | false => exact ⟨s, S1, m1, hs.mono L1, R1, q⟩⟩
theorem s_sub (hK : X.K = T.K) (hs : PlainIx b) (ha : PE X a (rdE T W fa)) (hb : PE X b (rdE T W fb)) : PE X (.Subscript a b pos) (rdE T W fun s S => (fa s S).bind fun x S => (fb s S).bind fun y S => lift (ixD x y S) S) :=
  PE_imp (pe_ix (ix_ok hK) ha hb hs) fun σ H Q h => rd_bin (fun d e S => nx_lift _ S) h
theorem valV_look : ∀ {kvs : List (Key × V)} {ks : List Key} {ds : List D} {H : Hp} {m : List Addr} {q : Key} {d : D}, kvs.map (·.1) = ks → RepL T H m ds (kvs.map (·.2)) → lookK ks ds q = some d → ∃ v, valV kvs q = some v ∧ RepV T H m d v
  | [], ks, ds, H, m, q, d, e, r, l => by
    subst e
    cases ds <;> cases l
  | (k, v) :: kvs, ks, ds, H, m, q, d, e, r, l => by
    subst e
    cases ds with
    | nil => cases l
    | cons d0 ds =>
      obtain ⟨v0, r0, e0, h1, h2⟩ := r
      have e1 : v = v0 := (List.cons.inj e0).1
      have e2 : kvs.map (·.2) = r0 := (List.cons.inj e0).2
      subst e1 e2
      simp only [List.map_cons, lookK] at l
      split at l
      · rename_i hk
        cases l
        exact ⟨v, by simp [valV, hk], h1⟩
      · rename_i hk
        obtain ⟨u, h3, h4⟩ := valV_look rfl h2 l
        exact ⟨u, by simpa [valV, hk] using h3, h4⟩
theorem keyD_ok {H : Hp} {m : List Addr} {d : D} {v : V} {q : Key} (h : RepV T H m d v) (e : keyD d = some q) : v = kV q := by
  cases d with
  | int i => cases e; exact h
  | str x => cases e; exact h
  | _ => cases e
theorem s_dget (hu : X.A.units + 1 < cLine) (hs : ∀ l h st p, b ≠ .Slice l h st p) (ha : PE X a (rdE T W fa)) (hb : PE X b (rdE T W fb)) (hn : NoSl b) :
    PE X (.Subscript a b pos) (rdE T W fun s S => (fa s S).bind fun x S => (fb s S).bind fun y S => lift (dgetD x y S) S) := by
  refine PE_imp (pe_dget hu ha hb hn) fun σ H Q h => ?_
  obtain ⟨s, S, m, hs, hS, h⟩ := h
  refine ⟨s, S, m, hs, hS, h.bind.mono fun d S1 H1 m1 L1 R1 q v rv => ?_⟩
  refine ⟨s, S1, m1, hs.mono L1, R1, q.bind.mono fun e S2 H2 m2 L2 R2 q2 u ru => ?_⟩
  obtain ⟨z, ez, q3⟩ := lift_ok q2
  have rv2 := RepV.mono L2 d v rv
  unfold dgetD at ez
  split at ez
  · rename_i ks xs
    obtain ⟨k, e1, e2⟩ := Option.bind_eq_some_iff.mp ez
    obtain ⟨ad, kvs, rfl, h1, h2, h3⟩ := rv2
    obtain ⟨w', h4, h5⟩ := valV_look h2 h3 e2
    exact ⟨ad, w', rfl, .inl ⟨kvs, k, .inl h1.1, keyD_ok ru e1, h4.symm⟩, q3.here R2 h5⟩
  · rename_i n
    obtain ⟨ad, rfl, h1⟩ := rv2
    obtain ⟨ob, ho, hq⟩ := R2.there h1
    rw [ho] at ez
    cases ob with
    | dk ks xs =>
      obtain ⟨k, e1, e2⟩ := Option.bind_eq_some_iff.mp ez
      obtain ⟨kvs, h1, h2, h3⟩ := hq
      obtain ⟨w', h4, h5⟩ := valV_look h2 h3 e2
      exact ⟨ad, w', rfl, .inl ⟨kvs, k, .inl h1, keyD_ok ru e1, h4.symm⟩, q3.here R2 h5⟩
    | _ => cases ez
  · cases ez
end
end TK
end
section
set_option autoImplicit false
set_option linter.all false
set_option maxRecDepth 100000
namespace TK
open PySem L2 PySem.Spec PyProof.Rows

section
variable {X : Cx} {T : Tb} {W : WX} {a b c o i : Expr} {as : List Expr} {fa fb fc : Vs → Sx → R D} {fs : Vs → Sx → R (List D)} {ta tb tc : Vs → Sx → R Bool} {pos apos p : Pos}
def notStar : Expr → Bool
  | .Starred _ _ => false
  | _ => true
theorem star_cons {e : Expr} (h : notStar e = true) (es : List Expr) (env : Env) : starEach (e :: es) env = (false, eval e env) :: starEach es env := by
  cases e <;> first | rfl | cases h

/-! ### slices -/
def rdO (T : Tb) (W : WX) (f : Vs → Sx → R (Option Int)) : TO := fun σ H Q => ∃ s S m, RelV T H m s σ ∧ RelH T H m S ∧ Ok T (fun c d H' => W c d σ H') H m (fun l _ H' _ => Q l H') (f s S)
theorem PO_imp {e : Option Expr} {t t' : TO} (h : PO X e t) (w : ∀ σ H Q, t' σ H Q → t σ H Q) : PO X e t' := ⟨fun pins s σ H Q I q => h.run pins s σ H Q I (w σ H Q q)⟩
theorem s_po_none : PO X none (rdO T W fun _ S => .ok none S) := PO_imp po_none fun σ H Q ⟨s, S, m, hs, hS, h⟩ => h H m .refl hS
theorem s_po_some (ha : PE X a (rdE T W fa)) : PO X (some a) (rdO T W fun s S => (fa s S).bind fun d S => (lift (intD d) S).bind fun i S => .ok (some i) S) := PO_imp (po_some ha) fun σ H Q ⟨s, S, m, hs, hS, h⟩ =>
  ⟨s, S, m, hs, hS, h.bind.mono fun d S1 H1 m1 L1 R1 q v rv => by
    obtain ⟨l, e, q2⟩ := lift_ok q.bind
    cases d with
    | int j => cases e; exact ⟨_, rv, q2 H1 m1 .refl R1 H1 m1 .refl R1⟩
    | _ => cases e⟩
theorem s_slc {lo hi : Option Expr} {fl fh : Vs → Sx → R (Option Int)} {p2 : Pos} (hK : X.K = T.K) (ha : PE X a (rdE T W fa)) (hl : PO X lo (rdO T W fl)) (hh : PO X hi (rdO T W fh)) :
    PE X (.Subscript a (.Slice lo hi none p2) pos) (rdE T W fun s S => (fa s S).bind fun x S => (fl s S).bind fun l S => (fh s S).bind fun h S => lift (slcD x l h S) S) := by
  refine PE_imp (pe_slice (slc_ok hK) ha hl hh) fun σ H Q ⟨s, S, m, hs, hS, h⟩ => ?_
  refine ⟨s, S, m, hs, hS, h.bind.mono fun d S1 H1 m1 L1 R1 q v rv => ?_⟩
  refine ⟨s, S1, m1, hs.mono L1, R1, q.bind.mono fun l S2 H2 m2 L2 R2 q2 => ?_⟩
  refine ⟨s, S2, m2, (hs.mono L1).mono L2, R2, q2.bind.mono fun u S3 H3 m3 L3 R3 q3 => ?_⟩
  exact ⟨d, S3, m3, RepV.mono L3 d v (RepV.mono L2 d v rv), R3, q3.wish (nx_lift _ S3)⟩

/-! ### lists of expressions -/
theorem s_pa_nil : PA X [] (rdA T W fun _ S => .ok [] S) := PA_imp pa_nil fun σ H Q ⟨s, S, m, hs, hS, h⟩ => h H m .refl hS [] rfl
theorem s_pa_cons (hst : notStar a = true) (ha : PE X a (rdE T W fa)) (hr : PA X as (rdA T W fs)) : PA X (a :: as) (rdA T W fun s S => (fa s S).bind fun x S => (fs s S).bind fun xs S => .ok (x :: xs) S) :=
  PA_imp (pa_cons ha hr (star_cons hst as X.env)) fun σ H Q ⟨s, S, m, hs, hS, h⟩ => ⟨s, S, m, hs, hS, h.bind.mono fun d S1 H1 m1 L1 R1 q v rv =>
    ⟨s, S1, m1, hs.mono L1, R1, q.bind.mono fun ds S2 H2 m2 L2 R2 q2 vs rvs => q2 H2 m2 .refl R2 (v :: vs) ⟨v, vs, rfl, RepV.mono L2 d v rv, rvs⟩⟩⟩
theorem s_tup {k : Nat} (h : PA X as (rdA T W fs)) : PE X (.Tuple as k pos) (rdE T W fun s S => (fs s S).bind fun xs S => if xs.length ≤ sizeLine then .ok (.tup xs) S else .bad) :=
  PE_imp (pe_tup h) fun σ H Q ⟨s, S, m, hs, hS, h⟩ => ⟨s, S, m, hs, hS, h.bind.mono fun ds S1 H1 m1 L1 R1 q vs rvs => by
    split at q
    · rename_i hz
      exact ⟨by rw [← rvs.len]; exact hz, fun p hp => q.tup R1 hp rvs⟩
    · exact q.elim⟩
theorem s_lst {tr : Bool} (h : PA X as (rdA T W fs)) : PE X (.List as pos) (rdE T W fun s S => (fs s S).bind fun xs S => newL tr xs S) :=
  PE_imp (pe_lst h) fun σ H Q ⟨s, S, m, hs, hS, h⟩ => ⟨s, S, m, hs, hS, h.bind.mono fun ds S1 H1 m1 L1 R1 q vs rvs => ⟨by rw [← rvs.len]; exact newL_len q, fun p hp => q.lst R1 hp rvs⟩⟩
/-! ### and, or -/
theorem s_and1 (ha : PT X a (rdT T W ta)) : PW X (.BoolOp .And [a] pos) (rdT T W fun s S => (ta s S).bind fun b S => if b = true then .ok true S else .ok false S) :=
  PW_imp (pw_and1 ha) fun σ H Q ⟨s, S, m, hs, hS, h⟩ => ⟨s, S, m, hs, hS, h.bind.mono fun k S1 H1 m1 L1 R1 q => by
    cases k with
    | true => exact q H1 m1 .refl R1
    | false => exact q H1 m1 .refl R1⟩
theorem s_or1 (ha : PT X a (rdT T W ta)) : PW X (.BoolOp .Or [a] pos) (rdT T W fun s S => (ta s S).bind fun b S => if b = true then .ok true S else .ok false S) :=
  PW_imp (pw_or1 ha) fun σ H Q ⟨s, S, m, hs, hS, h⟩ => ⟨s, S, m, hs, hS, h.bind.mono fun k S1 H1 m1 L1 R1 q => by
    cases k with
    | true => exact q H1 m1 .refl R1
    | false => exact q H1 m1 .refl R1⟩
theorem s_andT (ha : PT X a (rdT T W ta)) (hb : PW X (.BoolOp .And (b :: as) pos) (rdT T W tb)) : PW X (.BoolOp .And (a :: b :: as) pos) (rdT T W fun s S => (ta s S).bind fun k S => if k = true then tb s S else .ok false S) :=
  PW_imp (pw_and ha hb) fun σ H Q ⟨s, S, m, hs, hS, h⟩ => ⟨s, S, m, hs, hS, h.bind.mono fun k S1 H1 m1 L1 R1 q => by
    cases k with
    | true => exact ⟨s, S1, m1, hs.mono L1, R1, q⟩
    | false => exact q H1 m1 .refl R1⟩
theorem s_orT (ha : PT X a (rdT T W ta)) (hb : PW X (.BoolOp .Or (b :: as) pos) (rdT T W tb)) : PW X (.BoolOp .Or (a :: b :: as) pos) (rdT T W fun s S => (ta s S).bind fun k S => if k = true then .ok true S else tb s S) :=
  PW_imp (pw_or ha hb) fun σ H Q ⟨s, S, m, hs, hS, h⟩ => ⟨s, S, m, hs, hS, h.bind.mono fun k S1 H1 m1 L1 R1 q => by
    cases k with
    | true => exact q H1 m1 .refl R1
    | false => exact ⟨s, S1, m1, hs.mono L1, R1, q⟩⟩
theorem s_andV (hK : X.K = T.K) (ha : PE X a (rdE T W fa)) (hb : PE X (.BoolOp .And (b :: as) pos) (rdE T W fb)) :
    PE X (.BoolOp .And (a :: b :: as) pos) (rdE T W fun s S => (fa s S).bind fun x S => (lift (truD x S) S).bind fun k S => if k = true then fb s S else .ok x S) :=
  PE_imp (pe_andT ha hb) fun σ H Q ⟨s, S, m, hs, hS, h⟩ => ⟨s, S, m, hs, hS, h.bind.mono fun d S1 H1 m1 L1 R1 q v rv => by
    obtain ⟨k, ek, q2⟩ := lift_ok q.bind
    refine ⟨k, truD_ok hK R1 rv ek, ?_⟩
    have q3 := q2 H1 m1 .refl R1
    cases k with
    | true => exact ⟨s, S1, m1, hs.mono L1, R1, q3⟩
    | false => exact q3.here R1 rv⟩
theorem s_orV (hK : X.K = T.K) (ha : PE X a (rdE T W fa)) (hb : PE X (.BoolOp .Or (b :: as) pos) (rdE T W fb)) :
    PE X (.BoolOp .Or (a :: b :: as) pos) (rdE T W fun s S => (fa s S).bind fun x S => (lift (truD x S) S).bind fun k S => if k = true then .ok x S else fb s S) :=
  PE_imp (pe_orT ha hb) fun σ H Q ⟨s, S, m, hs, hS, h⟩ => ⟨s, S, m, hs, hS, h.bind.mono fun d S1 H1 m1 L1 R1 q v rv => by
    obtain ⟨k, ek, q2⟩ := lift_ok q.bind
    refine ⟨k, truD_ok hK R1 rv ek, ?_⟩
    have q3 := q2 H1 m1 .refl R1
    cases k with
    | true => exact q3.here R1 rv
    | false => exact ⟨s, S1, m1, hs.mono L1, R1, q3⟩⟩

/-! ### calls of built-ins -/
theorem rd_call1 {g : D → Sx → R D} (nx : ∀ d S c v S', g d S ≠ .exc c v S') {σ : L2.St} {H : Hp} {Q : VK} (h : rdE T W (fun s S => (fa s S).bind g) σ H Q) : tCB (rL T (g1 g)) (tCons (rdE T W fa) tNil) σ H Q := by
  obtain ⟨s, S, m, hs, hS, h⟩ := h
  exact ⟨s, S, m, hs, hS, h.bind.mono fun d S1 H1 m1 L1 R1 q v rv => ⟨[d], S1, m1, .one rv, R1, q.wish (nx d S1)⟩⟩
theorem rd_call2 {g : D → D → Sx → R D} (nx : ∀ d e S c v S', g d e S ≠ .exc c v S') {σ : L2.St} {H : Hp} {Q : VK} (h : rdE T W (fun s S => (fa s S).bind fun x S => (fb s S).bind fun y S => g x y S) σ H Q) :
    tCB (rL T (g2 g)) (tCons (rdE T W fa) (tCons (rdE T W fb) tNil)) σ H Q := by
  obtain ⟨s, S, m, hs, hS, h⟩ := h
  exact ⟨s, S, m, hs, hS, h.bind.mono fun d S1 H1 m1 L1 R1 q v rv => ⟨s, S1, m1, hs.mono L1, R1, q.bind.mono fun e S2 H2 m2 L2 R2 q2 u ru =>
    ⟨[d, e], S2, m2, ⟨v, [u], rfl, RepV.mono L2 d v rv, .one ru⟩, R2, q2.wish (nx d e S2)⟩⟩⟩
theorem nx_newL (tr : Bool) (xs : List D) (S : Sx) (c : Nat) (v : D) (S' : Sx) : newL tr xs S ≠ .exc c v S' := by
  unfold newL
  intro h
  split at h
  · split at h <;> cases h
  · cases h
theorem nx_b1 (f : B1) (d : D) (S : Sx) (c : Nat) (v : D) (S' : Sx) : b1D f d S ≠ .exc c v S' := by
  intro h
  cases f <;> simp only [b1D] at h <;> (repeat' split at h) <;> first | (cases h; done) | exact nx_newL _ _ _ _ _ _ h
def B1.name : B1 → Str
  | .len => "len"
  | .tuple => "tuple"
  | .list _ => "list"
  | .int => "int"
  | .str => "str"
theorem s_b1 (hK : X.K = T.K) (f : B1) (hst : notStar a = true) (hg : Gl X f.name) (hm : X.mg f.name = none) (ha : PE X a (rdE T W fa)) : PE X (.Call (.Name f.name p) [a] [] pos) (rdE T W fun s S => (fa s S).bind fun x S => b1D f x S) := by
  have pa : PA X [a] (tCons (rdE T W fa) tNil) := pa_cons ha pa_nil (star_cons hst [] X.env)
  have se := star_cons hst [] X.env
  cases f with
  | len => exact PE_imp (pe_callB (len_ok hK) hg hm (by decide +kernel) pa (by decide +kernel) (by decide +kernel) se rfl) fun σ H Q h => rd_call1 (fun d S => nx_b1 .len d S) h
  | tuple => exact PE_imp (pe_callTy (tuple_ok hK) hg hm (by decide +kernel) pa (by decide +kernel) (by decide +kernel) se rfl) fun σ H Q h => rd_call1 (fun d S => nx_b1 .tuple d S) h
  | list tr => exact PE_imp (pe_callTy (list_ok hK tr) (x := "list") hg hm (by decide +kernel) pa (by decide +kernel) (by decide +kernel) se rfl) fun σ H Q h => rd_call1 (fun d S => nx_b1 (.list tr) d S) h
  | int => exact PE_imp (pe_callTy int_ok hg hm (by decide +kernel) pa (by decide +kernel) (by decide +kernel) se rfl) fun σ H Q h => rd_call1 (fun d S => nx_b1 .int d S) h
  | str => exact PE_imp (pe_callTy str_ok hg hm (by decide +kernel) pa (by decide +kernel) (by decide +kernel) se rfl) fun σ H Q h => rd_call1 (fun d S => nx_b1 .str d S) h
def mmN (mx : Bool) : Str := if mx = true then "max" else "min"
theorem s_mm (hc : X.calm = true) (mx : Bool) (hst : notStar a = true) (hst2 : notStar b = true) (hg : Gl X (mmN mx)) (hm : X.mg (mmN mx) = none) (ha : PE X a (rdE T W fa)) (hb : PE X b (rdE T W fb)) :
    PE X (.Call (.Name (mmN mx) p) [a, b] [] pos) (rdE T W fun s S => (fa s S).bind fun x S => (fb s S).bind fun y S => lift (mmD mx x y) S) := by
  have pa : PA X [a, b] (tCons (rdE T W fa) (tCons (rdE T W fb) tNil)) := pa_cons ha (pa_cons hb pa_nil (star_cons hst2 [] X.env)) (star_cons hst [b] X.env)
  have se := star_cons hst [b] X.env
  have hp : (backTo pos (starEach [b] X.env)).any (·.1) = false := by rw [star_cons hst2 [] X.env] <;> rfl
  cases mx with
  | true => exact PE_imp (pe_callB (max_ok hc) hg hm (by decide +kernel) pa (by decide +kernel) (by decide +kernel) se hp) fun σ H Q h => rd_call2 (fun d e S => nx_lift _ S) h
  | false => exact PE_imp (pe_callB (min_ok hc) hg hm (by decide +kernel) pa (by decide +kernel) (by decide +kernel) se hp) fun σ H Q h => rd_call2 (fun d e S => nx_lift _ S) h
theorem s_isi (hK : X.K = T.K) {n : Str} {t : String} {q : Pos} (hst : notStar a = true) (hg : Gl X "isinstance") (hm : X.mg "isinstance" = none) (hg2 : Gl X n) (hm2 : X.mg n = none) (hb : bootBuiltins n = some (.type t)) (hn : n ≠ "__name__") (hd : (n == ("__debug__" : Str)) = false) (ha : PE X a (rdE T W fa)) :
    PE X (.Call (.Name "isinstance" p) [a, .Name n q] [] pos) (rdE T W fun s S => (fa s S).bind fun x S => lift ((isiD t x S).map .bl) S) := by
  have pa := pa_cons ha (pa_cons (pe_bltn (v := .ty t) (pos := q) hg2 hm2 hb rfl hn hd) pa_nil (star_cons (e := .Name n q) rfl [] X.env)) (star_cons hst [.Name n q] X.env)
  refine PE_imp (pe_callB call_isi hg hm (by decide +kernel) pa (by decide +kernel) (by decide +kernel) (star_cons hst [.Name n q] X.env) rfl) fun σ H Q ⟨s, S, m, hs, hS, h⟩ => ?_
  refine ⟨s, S, m, hs, hS, h.bind.mono fun d S1 H1 m1 L1 R1 q v rv => ?_⟩
  obtain ⟨z, ez, q2⟩ := lift_ok q
  obtain ⟨k, ek, rfl⟩ := Option.map_eq_some_iff.mp ez
  obtain ⟨ty, e1, e2⟩ := Option.bind_eq_some_iff.mp ek
  exact ⟨v, .ty t, _, _, k, rfl, .ty t, tyN_ok hK R1 rv e1, kit_ty e2, q2.here R1 rfl⟩
end
end TK
end
section
set_option autoImplicit false
set_option linter.all false
set_option maxRecDepth 100000
namespace TK
open PySem L2 PySem.Spec PyProof.Rows

section
variable {X : Cx} {T : Tb} {W : WX} {a b c o i : Expr} {as : List Expr} {fa fb fc : Vs → Sx → R D} {fs : Vs → Sx → R (List D)} {ta tb tc : Vs → Sx → R Bool} {pos apos p : Pos}
/-- no zero-argument super -/
def notSup : Expr → Bool
  | .Call (.Name id _) [] [] _ => decide (id ≠ "super")
  | _ => true
theorem base_of {e : Expr} {f : Str} {env : PySem.Env} (h : notSup e = true) : attributeBase e f env (eval e env) = eval e env := by
  unfold attributeBase
  split
  · rename_i id p q
    have hid : id ≠ "super" := of_decide_eq_true (by simpa [notSup] using h)
    have : (id != "super") = true := by simpa using hid
    simp [this]
  · rfl

/-! ### fields -/
theorem look_names : ∀ {fs : List (Str × V)} {ns : List Str} {ds : List D} {H : Hp} {m : List Addr} {x : Str} {d : D}, fs.map (·.1) = ns → RepL T H m ds (fs.map (·.2)) → lookN ns ds x = some d → ∃ v, fs.lookup x = some v ∧ RepV T H m d v
  | [], ns, ds, H, m, x, d, e, r, l => by
    subst e
    cases ds <;> cases l
  | (k, v) :: fs, ns, ds, H, m, x, d, e, r, l => by
    subst e
    cases ds with
    | nil => cases l
    | cons d0 ds =>
      obtain ⟨v0, r0, e0, h1, h2⟩ := r
      have e1 : v = v0 := (List.cons.inj e0).1
      have e2 : fs.map (·.2) = r0 := (List.cons.inj e0).2
      subst e1 e2
      simp only [List.map_cons, lookN] at l
      split at l
      · rename_i hk
        cases l
        exact ⟨v, by simp [List.lookup, hk], h1⟩
      · rename_i hk
        obtain ⟨u, h3, h4⟩ := look_names rfl h2 l
        refine ⟨u, ?_, h4⟩
        have : (x == k) = false := beq_eq_false_iff_ne.mpr fun e => hk e.symm
        simp [List.lookup, this, h3]
theorem no_name {fs : List (Str × V)} {x : Str} (h : x ∉ fs.map (·.1)) : fs.lookup x = none := by
  induction fs with
  | nil => rfl
  | cons q fs ih =>
    obtain ⟨k, v⟩ := q
    simp only [List.map_cons, List.mem_cons, not_or] at h
    have : (x == k) = false := beq_eq_false_iff_ne.mpr h.1
    simp only [List.lookup, this]
    exact ih h.2
/-- an instance of class c -/
def insAt (T : Tb) (H : Hp) (c : Nat) (ns : List Str) (xs : List D) (m : List Addr) (v : V) : Prop := ∃ a dx fs, v = .ref a ∧ H a = some (.ins (T.C c) dx fs) ∧ fs.map (·.1) = ns ∧ RepL T H m xs (fs.map (·.2))
theorem RepV.ins {H : Hp} {m : List Addr} {S : Sx} (R : RelH T H m S) {d : D} {v : V} {c : Nat} {ns : List Str} {xs : List D} (h : RepV T H m d v) (e : d = .iv c ns xs ∨ ∃ n, d = .obj n ∧ S[n]? = some (.ins c ns xs)) : insAt T H c ns xs m v := by
  rcases e with rfl | ⟨n, rfl, e⟩
  · obtain ⟨a, dx, fs, rfl, h1, h2, h3⟩ := h
    exact ⟨a, dx, fs, rfl, h1.1, h2, h3⟩
  · obtain ⟨a, rfl, h1⟩ := h
    obtain ⟨dx, fs, h2, h3, h4⟩ := R.obj n a _ h1 e
    exact ⟨a, dx, fs, rfl, h2, h3, h4⟩
theorem fldD_cases {c : Nat} {d : D} {x : Str} {S : Sx} {z : D} (h : fldD c d x S = some z) : ∃ ns xs, (d = .iv c ns xs ∨ ∃ n, d = .obj n ∧ S[n]? = some (.ins c ns xs)) ∧ lookN ns xs x = some z := by
  unfold fldD at h
  split at h
  · split at h
    · rename_i hc
      subst hc
      exact ⟨_, _, .inl rfl, h⟩
    · cases h
  · split at h
    · rename_i e
      split at h
      · rename_i hc
        subst hc
        exact ⟨_, _, .inr ⟨_, rfl, e⟩, h⟩
      · cases h
    · cases h
  · cases h
theorem s_fld {k : Nat} {x : Str} (hK : X.K = T.K) (hc : Cls T.K (T.C k)) (hn : NoAttr T.K (T.C k) x) (hb : notSup a = true) (ha : PE X a (rdE T W fa)) : PE X (.Attribute a x pos) (rdE T W fun s S => (fa s S).bind fun d S => lift (fldD k d x S) S) :=
  PE_imp (pe_fld ha (base_of hb)) fun σ H Q ⟨s, S, m, hs, hS, h⟩ => ⟨s, S, m, hs, hS, h.bind.mono fun d S1 H1 m1 L1 R1 q v rv => by
    obtain ⟨z, ez, q2⟩ := lift_ok q
    obtain ⟨ns, xs, e1, e2⟩ := fldD_cases ez
    obtain ⟨ad, dx, fs, rfl, h1, h2, h3⟩ := rv.ins R1 e1
    obtain ⟨u, h4, h5⟩ := look_names h2 h3 e2
    exact ⟨ad, _, dx, fs, u, rfl, h1, by rw [hK]; exact hc, by rw [hK]; exact hn, h4, q2.here R1 h5⟩⟩

/-! ### calls -/
/-- what a def's call comes to -/
def spOf (T : Tb) (n : Nat) (g : List D → Sx → R D) : Sp := fun vs H Q E => vs.length = n ∧ ∃ ds S m, RepL T H m ds vs ∧ RelH T H m S ∧ Ok T E H m (PV T Q) (g ds S)
theorem nm_of {H H' : Hp} {m m' : List Addr} (L : Later H H' m m') : ∀ a, a ∉ m' → a ∉ m := by
  obtain ⟨r, rfl, hr⟩ := L.pre
  exact fun a h q => h (List.mem_append_left _ q)
theorem RelH.back {H H' : Hp} {m m' : List Addr} {S S' : Sx} (R' : RelH T H' m' S') (L : Later H H' m m') (R : RelH T H m S) (e : S'.take S.length = S) : RelH T H' m S := by
  refine ⟨R.len, R.nd, fun a ha => ⟨(R.hid a ha).1, let ⟨u, e⟩ := (R.hid a ha).2; by
    cases u with
    | tbl ps => exact let ⟨qs, e2⟩ := L.tb a ps e (R.hid a ha).1; ⟨_, e2⟩
    | _ => exact ⟨_, L.fr a _ e (R.hid a ha).1 (fun _ q => nomatch q)⟩⟩, fun P hP => ⟨nm_of L P (R'.tab P hP).1, (R'.tab P hP).2⟩, fun n a o h1 h2 => ?_⟩
  have hn : n < S.length := (List.getElem?_eq_some_iff.mp h2).1
  have h3 : S'[n]? = some o := by
    rw [← e, List.getElem?_take_of_lt hn] at h2
    exact h2
  exact (R.obj n a o h1 h2).back (fun _ _ => L.get) (fun _ _ q => q) (nm_of L) (R'.obj n a o (L.get h1) h3)
theorem later_back {H H' : Hp} {m m' : List Addr} (L : Later H H' m m') : Later H H' m m := ⟨⟨[], by simp, by simp⟩, L.fr, L.tb⟩
theorem new_at {H H' : Hp} {m m' : List Addr} {S : Sx} (R : RelH T H m S) (L : Later H H' m m') {k : Nat} {a : Addr} (h : m'[k]? = some a) (hk : S.length ≤ k) : H a = none ∧ a ∉ m := by
  obtain ⟨r, rfl, hr⟩ := L.pre
  rw [← R.len] at hk
  rw [List.getElem?_append_right hk] at h
  exact hr a (List.mem_of_getElem? h)
theorem wrp_ok {H : Hp} {m : List Addr} {S : Sx} {E : XK} {Q : VK} (Rh : RelH T H m S) (md : Nat) {r : TK.R D} (h : Ok T E H m (PV T Q) (wrp md S r)) : Ok T E H m (PV T Q) r := by
  have value : ∀ d S', S'.take S.length = S → d.pure = true → Ok T E H m (PV T Q) (.ok d S) → Ok T E H m (PV T Q) (.ok d S') := fun d S' e1 e2 h H' m' L R' v rv =>
    h H' m (later_back L) (R'.back L Rh e1) v (RepV.pure (nm_of L) d v e2 rv)
  have excp : ∀ c d S', S'.take S.length = S → d.pure = true → Ok T E H m (PV T Q) (.exc c d S) → Ok T E H m (PV T Q) (.exc c d S') := fun c d S' e1 e2 h H' m' x dd L R' rv q =>
    h H' m x dd (later_back L) (R'.back L Rh e1) (RepV.pure (nm_of L) d x e2 rv) ⟨q.1, nm_of L _ q.2.1, q.2.2⟩
  unfold wrp at h
  split at h
  · exact h
  · split at h
    · rename_i e
      exact value _ _ e.1 e.2 h
    · exact h.elim
  · rename_i k S'
    split at h
    · rename_i e
      split at h
      · rename_i ds es
        split at h
        · rename_i hp
          intro H' m' L R' v rv
          obtain ⟨a, rfl, ha⟩ := rv
          obtain ⟨vs, h1, h2⟩ := R'.obj k a _ ha es
          exact h H' m (later_back L) (R'.back L Rh e.1) _ ⟨a, vs, rfl, ⟨h1, (new_at Rh L ha e.2).2, R'.seen (List.mem_of_getElem? ha)⟩, RepL.pure (nm_of L) ds vs hp h2⟩
        · exact h.elim
      · rename_i ks ds es
        split at h
        · rename_i hp
          intro H' m' L R' v rv
          obtain ⟨a, rfl, ha⟩ := rv
          obtain ⟨vs, h1, h2, h3⟩ := R'.obj k a _ ha es
          exact h H' m (later_back L) (R'.back L Rh e.1) _ ⟨a, vs, rfl, ⟨h1, (new_at Rh L ha e.2).2, R'.seen (List.mem_of_getElem? ha)⟩, h2, RepL.pure (nm_of L) ds _ hp h3⟩
        · exact h.elim
      · rename_i c ns ds es
        split at h
        · rename_i hp
          intro H' m' L R' v rv
          obtain ⟨a, rfl, ha⟩ := rv
          obtain ⟨dx, vs, h1, h2, h3⟩ := R'.obj k a _ ha es
          exact h H' m (later_back L) (R'.back L Rh e.1) _ ⟨a, dx, vs, rfl, ⟨h1, (new_at Rh L ha e.2).2, R'.seen (List.mem_of_getElem? ha)⟩, h2, RepL.pure (nm_of L) ds _ hp h3⟩
        · exact h.elim
      · exact h.elim
    · exact h.elim
  · split at h
    · rename_i e
      exact value _ _ e.1 e.2 h
    · exact h.elim
  · rename_i k S'
    split at h
    · rename_i e
      split at h
      · rename_i o es
        split at h
        · rename_i hp
          intro H' m' L R' v rv
          obtain ⟨a, rfl, ha⟩ := rv
          obtain ⟨ha0, na⟩ := new_at Rh L ha e.2
          have n2 : ∀ b, b ∉ m' → b ∉ m ++ [a] := fun b hb q => by
            rcases List.mem_append.mp q with q | q
            · exact nm_of L b hb q
            · rw [List.mem_singleton.mp q] at hb
              exact hb (List.mem_of_getElem? ha)
          have g3 : ∀ (n : Nat) (b : Addr), m[n]? = some b → (m ++ [a])[n]? = some b := fun n b q => by
            rw [List.getElem?_append_left (List.getElem?_eq_some_iff.mp q).1]
            exact q
          have L2 : Later H H' m (m ++ [a]) := ⟨⟨[a], rfl, fun b hb => by rw [List.mem_singleton.mp hb]; exact ⟨ha0, na⟩⟩, L.fr, L.tb⟩
          have R2 : RelH T H' (m ++ [a]) (S ++ [o]) := by
            refine ⟨by simp [Rh.len], ?_, fun b hb => ⟨fun q => ?_, (R'.hid b hb).2⟩, fun P hP => ⟨fun q => ?_, (R'.tab P hP).2⟩, fun n b u h1 h2 => ?_⟩
            · rw [List.nodup_append]
              exact ⟨Rh.nd, by simp, fun x hx y hy e => na (by rw [List.mem_singleton.mp hy] at e; exact e ▸ hx)⟩
            · rcases List.mem_append.mp q with q | q
              · exact (Rh.hid b hb).1 q
              · exact (R'.hid b hb).1 (by rw [List.mem_singleton.mp q]; exact List.mem_of_getElem? ha)
            · rcases List.mem_append.mp q with q | q
              · exact (Rh.tab P hP).1 q
              · exact (R'.tab P hP).1 (by rw [List.mem_singleton.mp q]; exact List.mem_of_getElem? ha)
            · by_cases hn : n < m.length
              · rw [List.getElem?_append_left hn] at h1
                rw [List.getElem?_append_left (by rw [← Rh.len]; exact hn)] at h2
                have h4 := R'.obj n b u (L.get h1) (by
                  have hn2 : n < S.length := (List.getElem?_eq_some_iff.mp h2).1
                  rw [← e.1, List.getElem?_take_of_lt hn2] at h2
                  exact h2)
                exact (Rh.obj n b u h1 h2).back (fun _ _ => L.get) g3 n2 h4
              · have hn2 : n = m.length := by
                  have := (List.getElem?_eq_some_iff.mp h1).1
                  simp at this
                  omega
                subst hn2
                rw [List.getElem?_append_right (Nat.le_refl _)] at h1
                rw [Rh.len, List.getElem?_append_right (Nat.le_refl _)] at h2
                simp at h1 h2
                subst h1 h2
                exact (R'.obj k _ _ ha es).pure n2 hp
          exact h H' (m ++ [a]) L2 R2 _ ⟨a, rfl, by rw [← Rh.len]; simp⟩
        · exact h.elim
      · exact h.elim
    · exact h.elim
  · split at h
    · rename_i e
      exact value _ _ e.1 e.2 h
    · exact h.elim
  · split at h
    · rename_i e
      exact excp _ _ _ e.1 e.2 h
    · exact h.elim
  · exact h.elim
end
end TK
end
section
set_option autoImplicit false
set_option linter.all false
set_option maxRecDepth 100000
namespace TK
open PySem L2 PySem.Spec PyProof.Rows

/-- an exception's wish that does not lean on the names -/
def Flat (W : WX) : Prop := ∀ c d σ σ' H, W c d σ H → W c d σ' H
section
variable {X : Cx} {T : Tb} {W : WX} {a b c o i : Expr} {as : List Expr} {fa fb fc : Vs → Sx → TK.R D} {fs : Vs → Sx → TK.R (List D)} {ta tb tc : Vs → Sx → TK.R Bool} {pos apos p : Pos}
/-- what a context has of the text -/
structure Same (X : Cx) (T : Tb) : Prop where
  P : X.prog = T.P
  w : X.w = T.w
  K : X.K = T.K
  mg : X.mg = T.mg
  base : X.base = T.base
/-- a def that keeps its promise -/
def FO (T : Tb) (lv k : Nat) (g : List D → Sx → TK.R D) : Prop := ∃ fd ps, FnOk T.P T.w T.K T.mg T.base (L2.CX T.P T.w) lv (T.F k) fd ps (spOf T ps.length g) ∧ Binds T.K fd ps []
theorem pass_flat {X : Cx} (tk : Takes X W) (hw : Flat W) : Passes (L2.CX X.prog X.w) X (fun c d H => W c d [] H) := fun pins σ H s e s' I h => passes_call tk (fun c d σ H q => hw c d [] σ H q) pins σ H s e s' I h
theorem rdA_nil (hz : ∀ s S, fs s S = .ok [] S) {σ : L2.St} {H : Hp} {Q : List V → Hp → Prop} (h : rdA T W fs σ H Q) : tNil σ H Q := by
  obtain ⟨s, S, m, hs, hS, h⟩ := h
  rw [hz] at h
  exact h H m .refl hS [] rfl
theorem any_star : ∀ {es : List Expr} {env : PySem.Env}, es.all notStar = true → (starEach es env).any (·.1) = false
  | [], _, _ => rfl
  | e :: es, env, h => by
    rw [List.all_cons, Bool.and_eq_true] at h
    rw [star_cons h.1, List.any_cons, any_star h.2]
    rfl
theorem any_back {es : List Expr} {env : PySem.Env} {pos : Pos} (h : es.all notStar = true) : (backTo pos (starEach es env)).any (·.1) = false := by
  unfold backTo
  rw [List.any_map]
  exact any_star h
theorem all_back {es : List Expr} {env : PySem.Env} {pos : Pos} (h : es.all notStar = true) : (backTo pos (starEach es env)).all (!·.1) = true := by
  have := any_back (pos := pos) (env := env) h
  rw [List.all_eq_not_any_not]
  simp only [Bool.not_not]
  rw [this] <;> rfl
theorem rd_call {md : Nat} {g : List D → Sx → TK.R D} {n : Nat} {σ : L2.St} {H : Hp} {Q : VK} (hw : Flat W) (hn : ∀ ds S, ds.length ≠ n → g ds S = .bad)
    (h : rdE T W (fun s S => (fs s S).bind fun xs S => wrp md S (g xs S)) σ H Q) : tCall (spOf T n g) [] (fun c d H => W c d [] H) (rdA T W fs) σ H Q := by
  obtain ⟨s, S, m, hs, hS, h⟩ := h
  refine ⟨s, S, m, hs, hS, h.bind.mono fun ds S1 H1 m1 L1 R1 q vs rvs => ?_⟩
  have q2 := wrp_ok R1 md q
  refine ⟨?_, ds, S1, m1, by rw [List.append_nil]; exact rvs, R1, ?_⟩
  · rw [List.append_nil, ← rvs.len]
    by_cases e : ds.length = n
    · exact e
    · rw [hn ds S1 e] at q2
      exact q2.elim
  · revert q2
    cases g ds S1 with
    | ok d S' => exact id
    | exc c e S' => exact fun q2 H' m' x dd L R r k => hw _ _ σ [] _ (q2 H' m' x dd L R r k)
    | bad => exact id
/-- the def's own count of arguments -/
def Arity (n : Nat) (g : List D → Sx → TK.R D) : Prop := ∀ ds S, ds.length ≠ n → g ds S = .bad
def FOa (T : Tb) (lv k : Nat) (g : List D → Sx → TK.R D) : Prop := ∃ fd ps, FnOk T.P T.w T.K T.mg T.base (L2.CX T.P T.w) lv (T.F k) fd ps (spOf T ps.length g) ∧ Binds T.K fd ps [] ∧ Arity ps.length g
theorem s_call {lv k md : Nat} {g : List D → Sx → TK.R D} {x : Str} (E : Same X T) (F : FOa T lv k g) (hr : Room lv X.A) (hg : Gl X x) (hm : T.mg x = some (.ref (T.F k))) (hk : PySem.W.keepIn T.K (.ref (T.F k)) = true) (hdb : (x == ("__debug__" : Str)) = false) (tk : Takes X W) (hw : Flat W)
    (hst : as.all notStar = true) (hz : as = [] → ∀ s S, fs s S = .ok [] S) (ha : PA X as (rdA T W fs)) : PE X (.Call (.Name x p) as [] pos) (rdE T W fun s S => (fs s S).bind fun xs S => wrp md S (g xs S)) := by
  obtain ⟨fd, ps, F, hb, ar⟩ := F
  rw [← E.P, ← E.w, ← E.K, ← E.mg, ← E.base] at F
  rw [← E.K] at hb hk
  rw [← E.mg] at hm
  cases as with
  | nil =>
    exact PE_imp (pe_call0 F hr hg hm hk hb .nil (pass_flat tk hw) hdb) fun σ H Q h => rdA_nil (hz rfl) (rd_call hw ar h)
  | cons e es =>
    rw [List.all_cons, Bool.and_eq_true] at hst
    exact PE_imp (pe_call F hr hg hm hk hb .nil (pass_flat tk hw) ha hdb (star_cons hst.1 es X.env) (any_back hst.2)) fun σ H Q h => rd_call hw ar h

/-! ### new instances -/
theorem new_ok {c : Nat} {g : List D → Sx → TK.R D} {E : XK} {H : Hp} {m : List Addr} {S : Sx} {Q : VK} {ds : List D} {vs : List V} {x dx : Addr} (R : RelH T H m S) (rvs : RepL T H m ds vs) (hx : H x = none) (hdx : H dx = none) (ne : dx ≠ x)
    (h : Ok T E H m (PV T Q) (newD c g ds S)) : ∃ S' m', RepL T (upd (upd H dx (.own x)) x (.ins (T.C c) dx [])) m' (.obj S.length :: ds) (.ref x :: vs) ∧ RelH T (upd (upd H dx (.own x)) x (.ins (T.C c) dx [])) m' S' ∧
      Ok T E (upd (upd H dx (.own x)) x (.ins (T.C c) dx [])) m' (PV T fun v H2 => v = .non ∧ Q (.ref x) H2) (g (.obj S.length :: ds) S') := by
  have hx2 : (upd H dx (.own x)) x = none := by rw [upd_ne (Ne.symm ne)]; exact hx
  have R1 : RelH T (upd H dx (.own x)) m S := R.aside hdx
  have L1 : Later H (upd H dx (.own x)) m m := later_new hdx
  have L2 := later_push (o := .ins (T.C c) dx []) R1 hx2
  have L := L1.trans L2
  have R2 : RelH T (upd (upd H dx (.own x)) x (.ins (T.C c) dx [])) (m ++ [x]) (S ++ [.ins c [] []]) := R1.push hx2 ⟨dx, [], upd_same, rfl, rfl⟩
  have gx : (m ++ [x])[S.length]? = some x := by rw [← R.len]; simp
  refine ⟨S ++ [.ins c [] []], m ++ [x], ⟨_, _, rfl, ⟨x, rfl, gx⟩, RepL.mono L _ _ rvs⟩, R2, ?_⟩
  unfold newD at h
  refine (Ok.shift L h).bind.mono fun d S3 H3 m3 L3 R3 q v rv => ?_
  split at q
  · rename_i e
    subst e
    exact ⟨rv, q.here R3 ⟨x, rfl, L3.get gx⟩⟩
  · exact q.elim
theorem Ok.flat (hw : Flat W) {σ : L2.St} {H : Hp} {m : List Addr} {P : D → Sx → Hp → List Addr → Prop} : ∀ {r : TK.R D}, Ok T (fun c d H' => W c d σ H') H m P r → Ok T (fun c d H' => W c d [] H') H m P r
  | .ok d S', h => h
  | .exc c e S', h => fun H' m' x dd L R r k => hw _ _ σ [] _ (h H' m' x dd L R r k)
  | .bad, h => h
theorem Arity.len {n : Nat} {g : List D → Sx → TK.R D} (ar : Arity n g) {E : XK} {H : Hp} {m : List Addr} {S : Sx} {P : D → Sx → Hp → List Addr → Prop} {ds : List D} (h : Ok T E H m P (g ds S)) : ds.length = n := by
  by_cases e : ds.length = n
  · exact e
  · rw [ar ds S e] at h
    exact h.elim
theorem rd_make {c md : Nat} {g : List D → Sx → TK.R D} {n : Nat} {σ : L2.St} {H : Hp} {Q : VK} (hw : Flat W) (hn : Arity n g)
    (h : rdE T W (fun s S => (fs s S).bind fun xs S => wrp md S (newD c g xs S)) σ H Q) : tMake (T.C c) (spOf T n g) [] (fun c d H => W c d [] H) (rdA T W fs) σ H Q := by
  obtain ⟨s, S, m, hs, hS, h⟩ := h
  refine ⟨s, S, m, hs, hS, h.bind.mono fun ds S1 H1 m1 L1 R1 q vs rvs x dx hx hdx ne => ?_⟩
  obtain ⟨S2, m2, r2, R2, q2⟩ := new_ok R1 rvs hx hdx ne (wrp_ok R1 md q)
  refine ⟨?_, _, S2, m2, by rw [List.append_nil]; exact r2, R2, q2.flat hw⟩
  rw [List.append_nil, ← r2.len]
  exact hn.len q2
theorem s_new {lv k c md : Nat} {g : List D → Sx → TK.R D} {x : Str} (E : Same X T) (F : FOa T lv k g) (M : Mk T.K (T.C c) (T.F k)) (hr : Room (lv + 1) X.A) (hg : Gl X x) (hm : T.mg x = some (.ref (T.C c))) (hdb : (x == ("__debug__" : Str)) = false) (tk : Takes X W) (hw : Flat W)
    (hst : as.all notStar = true) (hz : as = [] → ∀ s S, fs s S = .ok [] S) (ha : PA X as (rdA T W fs)) : PE X (.Call (.Name x p) as [] pos) (rdE T W fun s S => (fs s S).bind fun xs S => wrp md S (newD c g xs S)) := by
  obtain ⟨fd, ps, F, hb, ar⟩ := F
  rw [← E.P, ← E.w, ← E.K, ← E.mg, ← E.base] at F
  rw [← E.K] at hb M
  rw [← E.mg] at hm
  cases as with
  | nil =>
    refine PE_imp (pe_make0 M F hr hg hm hb .nil (pass_flat tk hw) hdb) fun σ H Q h => ?_
    exact rdA_nil (hz rfl) (rd_make hw ar h)
  | cons e es =>
    rw [List.all_cons, Bool.and_eq_true] at hst
    exact PE_imp (pe_make M F hr hg hm hb .nil (pass_flat tk hw) ha hdb (star_cons hst.1 es X.env) (any_back hst.2)) fun σ H Q h => rd_make hw ar h
/-- a def that keeps its promise, called with keywords behind self; dfl: what lacks -/
def FOk (T : Tb) (lv k : Nat) (kw : List Str) (dfl : List D) (g : List D → Sx → TK.R D) : Prop := ∃ fd ps mvs gg, FnOk T.P T.w T.K T.mg T.base (L2.CX T.P T.w) lv (T.F k) fd ps (spOf T ps.length g) ∧ (∀ H m, RepL T H m dfl mvs) ∧ KBn T.K fd ps 1 kw gg (fun vs zs => vs ++ (zs ++ mvs)) ∧ Arity ps.length g
theorem s_pk_nil : PK X [] (rdA T W fun _ S => .ok [] S) := ⟨fun p pins s σ H Q I q => pk_nil.run p pins s σ H Q I (rdA_nil (fun _ _ => rfl) q)⟩
theorem s_pk_cons {nm : Option Str} {kws : List Keyword} (ha : PE X a (rdE T W fa)) (hr : PK X kws (rdA T W fs)) : PK X (⟨nm, a, p⟩ :: kws) (rdA T W fun s S => (fa s S).bind fun x S => (fs s S).bind fun xs S => .ok (x :: xs) S) :=
  ⟨fun q pins s σ H Q I h => (pk_cons ha hr).run q pins s σ H Q I (by
    obtain ⟨s, S, m, hs, hS, h⟩ := h
    exact ⟨s, S, m, hs, hS, h.bind.mono fun d S1 H1 m1 L1 R1 q v rv =>
      ⟨s, S1, m1, hs.mono L1, R1, q.bind.mono fun ds S2 H2 m2 L2 R2 q2 vs rvs => q2 H2 m2 .refl R2 (v :: vs) ⟨v, vs, rfl, RepV.mono L2 d v rv, rvs⟩⟩⟩)⟩
def kwOk (kws : List Keyword) (ks : List Str) : Bool := decide (kws.map (·.1) = ks.map some)
theorem kw_all : ∀ {kws : List Keyword} {ks : List Str} {env : PySem.Env} {pos : Pos}, kwOk kws ks = true → (backToKw pos (keywordEach kws env)).all (·.1.isSome) = true ∧ (backToKw pos (keywordEach kws env)).filterMap (·.1) = ks ∧ (backToKw pos (keywordEach kws env)).any (·.1.isNone) = false
  | [], ks, env, pos, h => by
    cases ks with
    | nil => exact ⟨rfl, rfl, rfl⟩
    | cons k ks => exact absurd (of_decide_eq_true h) (by simp)
  | ⟨n, e, q⟩ :: kws, ks, env, pos, h => by
    cases ks with
    | nil => exact absurd (of_decide_eq_true h) (by simp)
    | cons k ks =>
      have h2 := of_decide_eq_true h
      simp only [List.map_cons, List.cons.injEq] at h2
      obtain ⟨i1, i2, i3⟩ := kw_all (env := env) (pos := pos) (kws := kws) (ks := ks) (decide_eq_true h2.2)
      have e0 : backToKw pos (keywordEach (⟨n, e, q⟩ :: kws) env) = (n, (do let v ← eval e env; standAt pos; pure v)) :: backToKw pos (keywordEach kws env) := rfl
      have e1 : n = some k := h2.1
      subst e1
      refine ⟨?_, ?_, ?_⟩
      · rw [e0, List.all_cons, i1] <;> rfl
      · rw [e0, List.filterMap_cons, i2] <;> rfl
      · rw [e0, List.any_cons, i3] <;> rfl
theorem s_newK {lv k c md : Nat} {g : List D → Sx → TK.R D} {x : Str} {kws : List Keyword} {kw : List Str} {dfl : List D} (E : Same X T) (F : FOk T lv k kw dfl g) (M : Mk T.K (T.C c) (T.F k)) (hr : Room (lv + 1) X.A) (hg : Gl X x) (hm : T.mg x = some (.ref (T.C c)))
    (hdb : (x == ("__debug__" : Str)) = false) (tk : Takes X W) (hw : Flat W) (hks : kwOk kws kw = true) (ha : PK X kws (rdA T W fs)) :
    PE X (.Call (.Name x p) [] kws pos) (rdE T W fun s S => (fs s S).bind fun xs S => if xs.length = kw.length then wrp md S (newD c g (xs ++ dfl) S) else .bad) := by
  obtain ⟨fd, ps, mvs, gg, F, hd, hb, ar⟩ := F
  rw [← E.P, ← E.w, ← E.K, ← E.mg, ← E.base] at F
  rw [← E.K] at hb M
  rw [← E.mg] at hm
  obtain ⟨k1, k2, k3⟩ := kw_all (env := X.env) (pos := pos) hks
  refine PE_imp (pe_makeK0 M F hr hg hm hb (pass_flat tk hw) ha k1 k2 hdb (by rw [k3] <;> rfl)) fun σ H Q ⟨s, S, m, hs, hS, h⟩ => ?_
  refine ⟨s, S, m, hs, hS, h.bind.mono fun ds S1 H1 m1 L1 R1 q vs rvs => ?_⟩
  split at q
  · rename_i hl
    refine ⟨rfl, by rw [← rvs.len]; exact hl, fun x dx hx hdx ne => ?_⟩
    obtain ⟨S2, m2, r2, R2, q2⟩ := new_ok R1 (rvs.append (hd H1 m1)) hx hdx ne (wrp_ok R1 md q)
    refine ⟨?_, _, S2, m2, r2, R2, q2.flat hw⟩
    have := r2.len
    rw [ar.len q2] at this
    exact this.symm
  · exact q.elim

/-! ### methods -/
theorem meth_form {m : Str} (hst : as.all notStar = true) (hb : notSup o = true) (hl : (apos.endLine == pos.line) = true) (hlen : as.length < 30) :
    eval (.Call (.Attribute o m apos) as [] pos) X.env = (do
      let ov ← eval o X.env
      standAt apos.atName
      let (f, first) ← holding [ov] (getMethod ov m (plainOf o X.env))
      callWith pos f first (backTo pos (starEach as X.env)) (backToKw pos (keywordEach [] X.env))) :=
  mcall_of (base_of hb) fun ov => mcall_line (by
    unfold methodCallForm
    rw [all_back hst]
    have : decide (as.length + 0 < 30) = true := decide_eq_true (by omega)
    simp [backToKw, keywordEach, hlen]) hl
theorem s_mt {lv k c md : Nat} {g : List D → Sx → TK.R D} {x : Str} (E : Same X T) (F : FOa T lv k g) (hC : Cls T.K (T.C c)) (hM : Meth T.K (T.C c) x (T.F k)) (hr : Room lv X.A) (tk : Takes X W) (hw : Flat W)
    (hb : notSup o = true) (hl : (apos.endLine == pos.line) = true) (hlen : as.length < 30) (hst : as.all notStar = true) (hz : as = [] → ∀ s S, fs s S = .ok [] S) (ho : PE X o (rdE T W fa)) (ha : PA X as (rdA T W fs)) :
    PE X (.Call (.Attribute o x apos) as [] pos) (rdE T W fun s S => (fa s S).bind fun d S => (lift (mtD c x d S) S).bind fun _ S => (fs s S).bind fun xs S => wrp md S (g (d :: xs) S)) := by
  obtain ⟨fd, ps, F, hbd, ar⟩ := F
  rw [← E.P, ← E.w, ← E.K, ← E.mg, ← E.base] at F
  rw [← E.K] at hbd hC hM
  have key : ∀ σ H Q, rdE T W (fun s S => (fa s S).bind fun d S => (lift (mtD c x d S) S).bind fun _ S => (fs s S).bind fun xs S => wrp md S (g (d :: xs) S)) σ H Q →
      tMeth (T.C c) x (spOf T ps.length g) [] (fun c d H => W c d [] H) (rdE T W fa) (rdA T W fs) σ H Q := fun σ H Q ⟨s, S, m, hs, hS, h⟩ => by
    refine ⟨s, S, m, hs, hS, h.bind.mono fun d S1 H1 m1 L1 R1 q v rv => ?_⟩
    obtain ⟨_, eu, q⟩ := lift_ok q.bind
    have h3 : ∃ ns xs, (d = .iv c ns xs ∨ ∃ n, d = .obj n ∧ S1[n]? = some (.ins c ns xs)) ∧ x ∉ ns := by
      unfold mtD at eu
      split at eu
      · split at eu
        · rename_i e
          split at eu
          · rename_i hc
            obtain ⟨rfl, hx⟩ := hc
            exact ⟨_, _, .inr ⟨_, rfl, e⟩, hx⟩
          · cases eu
        · cases eu
      · split at eu
        · rename_i hc
          obtain ⟨rfl, hx⟩ := hc
          exact ⟨_, _, .inl rfl, hx⟩
        · cases eu
      · cases eu
    obtain ⟨ns, xs, e1, e2⟩ := h3
    obtain ⟨ad, dx, fl, rfl, h1, h2, _⟩ := rv.ins R1 e1
    refine ⟨ad, dx, fl, rfl, h1, no_name (by rw [h2]; exact e2), s, S1, m1, hs.mono L1, R1, ?_⟩
    refine (q H1 m1 .refl R1).bind.mono fun ds S2 H2 m2 L2 R2 q2 vs rvs => ?_
    have q3 := wrp_ok R2 md q2
    have r3 : RepL T H2 m2 (d :: ds) (.ref ad :: vs) := ⟨_, _, rfl, RepV.mono L2 d _ rv, rvs⟩
    refine ⟨?_, d :: ds, S2, m2, by rw [List.append_nil]; exact r3, R2, q3.flat hw⟩
    rw [List.append_nil, ← r3.len]
    exact ar.len q3
  have hf := meth_form (X := X) (m := x) hst hb hl hlen
  cases as with
  | nil =>
    refine PE_imp (pe_meth0 ho hC hM F hr hbd .nil (pass_flat tk hw) hf) fun σ H Q h => ?_
    obtain ⟨s, S, m, hs, hS, h⟩ := key σ H Q h
    exact ⟨s, S, m, hs, hS, h.mono fun d S1 H1 m1 L1 R1 q v rv => by
      obtain ⟨ad, dx, fl, e, h1, h2, q2⟩ := q v rv
      exact ⟨ad, dx, fl, e, h1, h2, rdA_nil (hz rfl) q2⟩⟩
  | cons e es =>
    rw [List.all_cons, Bool.and_eq_true] at hst
    exact PE_imp (pe_meth ho hC hM F hr hbd .nil (pass_flat tk hw) ha (star_cons hst.1 es X.env) (any_back hst.2) hf) key
end
end TK
end
section
set_option autoImplicit false
set_option linter.all false
set_option maxRecDepth 100000
namespace TK
open PySem L2 PySem.Spec PyProof.Rows

section
variable {X : Cx} {T : Tb} {W : WX} {a b c o i : Expr} {as : List Expr} {fa fb fc : Vs → Sx → TK.R D} {fs : Vs → Sx → TK.R (List D)} {pos apos p : Pos}
/-! ### methods of lists -/
theorem tyV_lst {H : Hp} {m : List Addr} {S : Sx} (R : RelH T H m S) {d : D} {v : V} (h : RepV T H m d v) (e : (lstOf d S).isSome = true) : tyV X.K "list" v H := by
  obtain ⟨xs, e⟩ := Option.isSome_iff_exists.mp e
  obtain ⟨a, vs, rfl, h1, _⟩ := h.lst R e
  exact .inl ⟨rfl, vs, .inl (.inl h1)⟩
/-- an object that is a list -/
theorem RepV.own {H : Hp} {m : List Addr} {S : Sx} (R : RelH T H m S) {n : Nat} {v : V} {xs : List D} (h : RepV T H m (.obj n) v) (e : S[n]? = some (.lst xs)) : ∃ a vs, v = .ref a ∧ m[n]? = some a ∧ H a = some (.lst vs) ∧ RepL T H m xs vs := by
  obtain ⟨a, rfl, h1⟩ := h
  obtain ⟨vs, h2, h3⟩ := R.obj n a _ h1 e
  exact ⟨a, vs, rfl, h1, h2, h3⟩
/-- a list is rewritten -/
theorem Ok.put {H : Hp} {m : List Addr} {S : Sx} {Q : VK} {E : XK} {n : Nat} {a : Addr} {xs : List D} {vs : List V} {d : D} {v : V} (R : RelH T H m S) (hm : m[n]? = some a) (h : Ok T E H m (PV T Q) (.ok d (S.set n (.lst xs)))) (r : RepL T H m xs vs) (rd : RepV T H m d v) :
    Q v (upd H a (.lst vs)) :=
  h _ m (later_set hm) (R.set hm ⟨vs, upd_same, RepL.mono (later_set hm) _ _ r⟩) v (RepV.mono (later_set hm) _ _ rd)
theorem app_okD {H : Hp} {m : List Addr} {S : Sx} {Q : VK} {E : XK} (R : RelH T H m S) {x y : D} {v u : V} (rx : RepV T H m x v) (ry : RepV T H m y u) (h : Ok T E H m (PV T Q) (appD x y S)) : rAppend v [u] H Q := by
  unfold appD at h
  split at h
  · rename_i n
    split at h
    · rename_i xs e
      split at h
      · rename_i hl
        obtain ⟨a, vs, rfl, hm, h1, h2⟩ := rx.own R e
        exact ⟨a, vs, u, rfl, rfl, h1, by rw [← h2.len]; exact hl, Ok.put R hm h (h2.append (.one ry)) rfl⟩
      · exact h.elim
    · exact h.elim
  · exact h.elim
theorem ext_okD {H : Hp} {m : List Addr} {S : Sx} {Q : VK} {E : XK} (R : RelH T H m S) {x y : D} {v u : V} (rx : RepV T H m x v) (ry : RepV T H m y u) (h : Ok T E H m (PV T Q) (extD x y S)) : rExtend v [u] H Q := by
  unfold extD at h
  split at h
  · rename_i n
    split at h
    · rename_i xs ys e e2
      split at h
      · rename_i hl
        obtain ⟨a, vs, rfl, hm, h1, h2⟩ := rx.own R e
        obtain ⟨b, us, rfl, h3, h4⟩ := ry.lst R e2
        exact ⟨a, b, vs, us, rfl, rfl, h1, h3, by rw [← h2.len, ← h4.len]; exact hl, Ok.put R hm h (h2.append h4) rfl⟩
      · exact h.elim
    · exact h.elim
  · exact h.elim
theorem pop_okD {H : Hp} {m : List Addr} {S : Sx} {Q : VK} {E : XK} (R : RelH T H m S) {x : D} {v : V} (rx : RepV T H m x v) (h : Ok T E H m (PV T Q) (popD x S)) : tyV X.K "list" v H ∧ rPop v [] H Q := by
  unfold popD at h
  split at h
  · rename_i n
    split at h
    · rename_i xs e
      split at h
      · rename_i d e2
        obtain ⟨a, vs, rfl, hm, h1, h2⟩ := rx.own R e
        obtain ⟨u, e3, ru⟩ := h2.get e2
        rw [h2.len] at e3
        exact ⟨.inl ⟨rfl, vs, .inl (.inl h1)⟩, a, vs, u, rfl, rfl, h1, e3, Ok.put R hm h h2.dropLast ru⟩
      · exact h.elim
    · exact h.elim
  · exact h.elim
theorem popi_okD {H : Hp} {m : List Addr} {S : Sx} {Q : VK} {E : XK} (R : RelH T H m S) {x y : D} {v u : V} (rx : RepV T H m x v) (ry : RepV T H m y u) (h : Ok T E H m (PV T Q) (popiD x y S)) : rPopAt v [u] H Q := by
  unfold popiD at h
  split at h
  · rename_i n i
    split at h
    · rename_i xs e
      split at h
      · rename_i hi
        split at h
        · rename_i k ek
          split at h
          · rename_i d e2
            obtain ⟨a, vs, rfl, hm, h1, h2⟩ := rx.own R e
            obtain ⟨w, e3, rw'⟩ := h2.get e2
            rw [h2.len] at ek
            rw [show u = .int i from ry]
            exact ⟨a, vs, i, k, w, rfl, rfl, h1, hi.1, hi.2, ek, e3, Ok.put R hm h (h2.erase k) rw'⟩
          · exact h.elim
        · exact h.elim
      · exact h.elim
    · exact h.elim
  · exact h.elim
theorem few1 (hst : notStar b = true) : ((backTo pos (starEach [b] X.env)).all (fun x => !x.1) && (backToKw pos (keywordEach [] X.env)).all (fun x => x.1.isSome)
      && decide (([b] : List Expr).length + ([] : List Keyword).length + (if ([] : List Keyword).isEmpty then 0 else 1) < 30)) = true := by
  rw [star_cons hst [] X.env] <;> rfl
theorem rd_bm1 {r : V → List V → Hp → VK → Prop} {g : D → D → Sx → TK.R D} (nx : ∀ d e S c v S', g d e S ≠ .exc c v S')
    (hr : ∀ {H : Hp} {m : List Addr} {S : Sx} {Q : VK} (R : RelH T H m S) {x y : D} {v u : V} (rx : RepV T H m x v) (ry : RepV T H m y u) (h : Ok T (fun _ _ _ => False) H m (PV T Q) (g x y S)), r v [u] H Q) {σ : L2.St} {H : Hp} {Q : VK}
    (h : rdE T W (fun s S => (fa s S).bind fun x S => if (lstOf x S).isSome = true then (fb s S).bind fun y S => g x y S else .bad) σ H Q) : tBM X.K "list" r (rdE T W fa) (tCons (rdE T W fb) tNil) σ H Q := by
  obtain ⟨s, S, m, hs, hS, h⟩ := h
  refine ⟨s, S, m, hs, hS, h.bind.mono fun x S1 H1 m1 L1 R1 q v rv => ?_⟩
  split at q
  · rename_i e
    refine ⟨tyV_lst R1 rv e, s, S1, m1, hs.mono L1, R1, q.bind.mono fun y S2 H2 m2 L2 R2 q2 u ru => ?_⟩
    exact hr R2 (RepV.mono L2 _ _ rv) ru (q2.wish (nx x y S2))
  · exact q.elim
theorem nx_app (x y : D) (S : Sx) (c : Nat) (v : D) (S' : Sx) : appD x y S ≠ .exc c v S' := by
  intro h
  unfold appD at h
  (repeat' split at h) <;> cases h
theorem nx_ext (x y : D) (S : Sx) (c : Nat) (v : D) (S' : Sx) : extD x y S ≠ .exc c v S' := by
  intro h
  unfold extD at h
  (repeat' split at h) <;> cases h
theorem nx_popi (x y : D) (S : Sx) (c : Nat) (v : D) (S' : Sx) : popiD x y S ≠ .exc c v S' := by
  intro h
  unfold popiD at h
  (repeat' split at h) <;> cases h
theorem nx_pop (x : D) (S : Sx) (c : Nat) (v : D) (S' : Sx) : popD x S ≠ .exc c v S' := by
  intro h
  unfold popD at h
  (repeat' split at h) <;> cases h
theorem s_app (hb : notSup o = true) (hl : (apos.endLine == pos.line) = true) (hst : notStar b = true) (ho : PE X o (rdE T W fa)) (ha : PE X b (rdE T W fb)) :
    PE X (.Call (.Attribute o "append" apos) [b] [] pos) (rdE T W fun s S => (fa s S).bind fun x S => if (lstOf x S).isSome = true then (fb s S).bind fun y S => appD x y S else .bad) :=
  PE_imp (pe_bm F.plainAttrs_list F.slot_list_append F.type_list_append mt_append ho (pa_cons ha pa_nil (star_cons hst [] X.env)) (base_of hb) (few1 hst) hl (star_cons hst [] X.env) rfl) fun σ H Q h => rd_bm1 nx_app app_okD h
theorem s_ext (hb : notSup o = true) (hl : (apos.endLine == pos.line) = true) (hst : notStar b = true) (ho : PE X o (rdE T W fa)) (ha : PE X b (rdE T W fb)) :
    PE X (.Call (.Attribute o "extend" apos) [b] [] pos) (rdE T W fun s S => (fa s S).bind fun x S => if (lstOf x S).isSome = true then (fb s S).bind fun y S => extD x y S else .bad) :=
  PE_imp (pe_bm F.plainAttrs_list F.slot_list_extend F.type_list_extend mt_extend ho (pa_cons ha pa_nil (star_cons hst [] X.env)) (base_of hb) (few1 hst) hl (star_cons hst [] X.env) rfl) fun σ H Q h => rd_bm1 nx_ext ext_okD h
theorem s_popi (hb : notSup o = true) (hl : (apos.endLine == pos.line) = true) (hst : notStar b = true) (ho : PE X o (rdE T W fa)) (ha : PE X b (rdE T W fb)) :
    PE X (.Call (.Attribute o "pop" apos) [b] [] pos) (rdE T W fun s S => (fa s S).bind fun x S => if (lstOf x S).isSome = true then (fb s S).bind fun y S => popiD x y S else .bad) :=
  PE_imp (pe_bm F.plainAttrs_list F.slot_list_pop F.type_list_pop mt_popAt ho (pa_cons ha pa_nil (star_cons hst [] X.env)) (base_of hb) (few1 hst) hl (star_cons hst [] X.env) rfl) fun σ H Q h => rd_bm1 nx_popi popi_okD h
theorem s_pop (hb : notSup o = true) (hl : (apos.endLine == pos.line) = true) (ho : PE X o (rdE T W fa)) :
    PE X (.Call (.Attribute o "pop" apos) [] [] pos) (rdE T W fun s S => (fa s S).bind fun x S => popD x S) :=
  PE_imp (pe_bm0 F.plainAttrs_list F.slot_list_pop F.type_list_pop mt_pop ho (base_of hb) hl) fun σ H Q ⟨s, S, m, hs, hS, h⟩ =>
    ⟨s, S, m, hs, hS, h.bind.mono fun x S1 H1 m1 L1 R1 q v rv => pop_okD R1 rv q⟩

end
end TK
end
section
set_option autoImplicit false
set_option linter.all false
set_option maxRecDepth 100000
namespace TK
open PySem L2 PySem.Spec PyProof.Rows

/-! ### a hidden thing comes to light -/
section
variable {T : Tb} {H : Hp} {m : List Addr} {S : Sx} {p : Addr}
theorem At.adopt {a : Addr} {o : HO} (h : At (T.hide p) m H a o) : At T (m ++ [p]) H a o := ⟨h.1, fun q => by
  rcases List.mem_append.mp q with q | q
  · exact h.2.1 q
  · exact h.2.2 (by rw [List.mem_singleton.mp q]; exact List.mem_cons_self), fun q => h.2.2 (List.mem_cons_of_mem _ q)⟩
mutual
theorem RepV.adopt (nt : ∀ xs, ¬ Rd H p (.tup xs)) : ∀ (d : D) (v : V), RepV (T.hide p) H m d v → RepV T H (m ++ [p]) d v
  | .non, v, h => h
  | .bl b, v, h => h
  | .int i, v, h => h
  | .str x, v, h => h
  | .scr xs, v, h => by
    obtain ⟨a, e2, h1 | h1⟩ := h
    · refine ⟨a, e2, .inl ⟨h1.1, fun q => ?_, fun q => h1.2.2 (List.mem_cons_of_mem _ q)⟩⟩
      rcases List.mem_append.mp q with q | q
      · exact h1.2.1 q
      · exact h1.2.2 (by rw [List.mem_singleton.mp q]; exact List.mem_cons_self)
    · exact ⟨a, e2, .inr h1⟩
  | .tup ds, v, h => by
    obtain ⟨a, xs, e2, h1 | h1, h2⟩ := h
    · refine ⟨a, xs, e2, .inl ⟨h1.1, fun q => ?_⟩, RepL.adopt nt ds xs h2⟩
      rcases List.mem_append.mp q with q | q
      · exact h1.2 q
      · exact nt xs (List.mem_singleton.mp q ▸ h1.1)
    · exact ⟨a, xs, e2, .inr h1, RepL.adopt nt ds xs h2⟩
  | .lv ds, v, h => by
    obtain ⟨a, xs, e2, h1, h2⟩ := h
    exact ⟨a, xs, e2, h1.adopt, RepL.adopt nt ds xs h2⟩
  | .dv ks ds, v, h => by
    obtain ⟨a, xs, e2, h1, h2, h3⟩ := h
    exact ⟨a, xs, e2, h1.adopt, h2, RepL.adopt nt ds _ h3⟩
  | .iv c ns ds, v, h => by
    obtain ⟨a, dx, xs, e2, h1, h2, h3⟩ := h
    exact ⟨a, dx, xs, e2, h1.adopt, h2, RepL.adopt nt ds _ h3⟩
  | .obj n, v, h => by
    obtain ⟨a, e, h1⟩ := h
    exact ⟨a, e, by rw [List.getElem?_append_left (List.getElem?_eq_some_iff.mp h1).1]; exact h1⟩
  | .fn k, v, h => h
theorem RepL.adopt (nt : ∀ xs, ¬ Rd H p (.tup xs)) : ∀ (ds : List D) (vs : List V), RepL (T.hide p) H m ds vs → RepL T H (m ++ [p]) ds vs
  | [], vs, h => h
  | d :: ds, vs, h => by
    obtain ⟨v, r, e2, h1, h2⟩ := h
    exact ⟨v, r, e2, RepV.adopt nt d v h1, RepL.adopt nt ds r h2⟩
end
theorem RepO.adopt (nt : ∀ xs, ¬ Rd H p (.tup xs)) {a : Addr} {o : MO} (h : RepO (T.hide p) H m a o) : RepO T H (m ++ [p]) a o := by
  cases o with
  | lst ds => obtain ⟨xs, e1, h1⟩ := h; exact ⟨xs, e1, RepL.adopt nt ds xs h1⟩
  | dk ks ds => obtain ⟨xs, e1, h1, h2⟩ := h; exact ⟨xs, e1, h1, RepL.adopt nt ds _ h2⟩
  | dn ks ds => exact h.elim
  | sn ks => exact h.elim
  | ins c ns ds => obtain ⟨dx, xs, e1, h1, h2⟩ := h; exact ⟨dx, xs, e1, h1, RepL.adopt nt ds _ h2⟩
theorem RelH.adopt (R : RelH (T.hide p) H m S) (np : p ∉ T.hid) (nt : ∀ xs, ¬ Rd H p (.tup xs)) (ntb : ∀ ps, H p ≠ some (.tbl ps)) {o : MO} (q : RepO T H (m ++ [p]) p o) : RelH T H (m ++ [p]) (S ++ [o]) := by
  have hp : p ∉ m := (R.hid p List.mem_cons_self).1
  refine ⟨by simp [R.len], ?_, fun a ha => ⟨fun z => ?_, (R.hid a (List.mem_cons_of_mem _ ha)).2⟩, fun P hP => ⟨fun z => ?_, (R.tab P hP).2⟩, fun n a u h1 h2 => ?_⟩
  · rw [List.nodup_append]
    exact ⟨R.nd, by simp, fun x hx y hy e => hp (by rw [List.mem_singleton.mp hy] at e; exact e ▸ hx)⟩
  · rcases List.mem_append.mp z with z | z
    · exact (R.hid a (List.mem_cons_of_mem _ ha)).1 z
    · exact np (List.mem_singleton.mp z ▸ ha)
  · obtain ⟨k, ps, e, _⟩ := R.tab P hP
    rcases List.mem_append.mp z with z | z
    · exact k z
    · exact ntb ps (List.mem_singleton.mp z ▸ e)
  · by_cases hn : n < m.length
    · rw [List.getElem?_append_left hn] at h1
      rw [List.getElem?_append_left (by rw [← R.len]; exact hn)] at h2
      exact (R.obj n a u h1 h2).adopt nt
    · have hn2 : n = m.length := by
        have := (List.getElem?_eq_some_iff.mp h1).1
        simp at this
        omega
      subst hn2
      rw [List.getElem?_append_right (Nat.le_refl _)] at h1
      rw [R.len, List.getElem?_append_right (Nat.le_refl _)] at h2
      simp at h1 h2
      subst h1 h2
      exact q
theorem Later.adopt {H0 : Hp} {m0 : List Addr} (L : Later H0 H m0 m) (h0 : H0 p = none) (h1 : p ∉ m0) : Later H0 H m0 (m ++ [p]) := by
  obtain ⟨r, rfl, hr⟩ := L.pre
  refine ⟨⟨r ++ [p], by simp, fun a ha => ?_⟩, L.fr, L.tb⟩
  rcases List.mem_append.mp ha with z | z
  · exact hr a z
  · rw [List.mem_singleton.mp z]
    exact ⟨h0, h1⟩
theorem Later.off {H0 H' : Hp} {m0 : List Addr} (L : Later H0 H m0 m) (h0 : H0 p = none) (e : ∀ a, a ≠ p → H' a = H a) : Later H0 H' m0 m :=
  ⟨L.pre, fun a o h n nt => by rw [e a (ne_of_none h h0)]; exact L.fr a o h n nt, fun a ps h n => by rw [e a (ne_of_none h h0)]; exact L.tb a ps h n⟩
theorem nt_lst {xs : List V} (h : H p = some (.lst xs)) : ∀ ys, ¬ Rd H p (.tup ys) := fun ys q => by
  rcases q with q | ⟨o, q⟩ <;> rw [h] at q <;> cases q
theorem nt_dk {kvs : List (Key × V)} (h : H p = some (.dK kvs)) : ∀ ys, ¬ Rd H p (.tup ys) := fun ys q => by
  rcases q with q | ⟨o, q⟩ <;> rw [h] at q <;> cases q
theorem ntb_lst {xs : List V} (h : H p = some (.lst xs)) : ∀ ps, H p ≠ some (.tbl ps) := fun ps q => by rw [h] at q; cases q
theorem ntb_dk {kvs : List (Key × V)} (h : H p = some (.dK kvs)) : ∀ ps, H p ≠ some (.tbl ps) := fun ps q => by rw [h] at q; cases q
theorem Ok.bind0 {a b : Type} {E : XK} {P : b → Sx → Hp → List Addr → Prop} {f : a → Sx → TK.R b} : ∀ {r : TK.R a}, Ok T E H m P (r.bind f) → Ok T E H m (fun x S' _ _ => Ok T E H m P (f x S')) r
  | .ok x S', h => fun _ _ _ _ => h
  | .exc c e S', h => h
  | .bad, h => h
theorem Ok.hid {a : Type} {E : XK} {o : HO} {P P' : a → Sx → Hp → List Addr → Prop} {r : TK.R a} (hp : H p = none) (h : Ok T E H m P r) (w : ∀ x S' H' m', Later (upd H p o) H' m m' → RelH (T.hide p) H' m' S' → P x S' H' m' → P' x S' H' m') :
    Ok (T.hide p) E (upd H p o) m P' r := by
  cases r with
  | ok x S' => exact fun H' m' L R => w x S' H' m' L R (h H' m' ((later_new hp).trans L) R.unhide)
  | exc c e S' => exact fun H' m' x dd L R r q => h H' m' x dd ((later_new hp).trans L) R.unhide (RepV.unhide _ _ r) q.unhide
  | bad => exact h.elim
end

/-! ### expressions while something is built -/
section
variable {X : Cx} {T : Tb} {W : WX} {a b c o i : Expr} {as : List Expr} {fa fb fc : Vs → Sx → TK.R D} {fs : Vs → Sx → TK.R (List D)} {pos apos p : Pos}
def rdEx (T : Tb) (W : WX) (f : Vs → Sx → TK.R D) : TE := fun σ H Q => ∃ p, rdE (T.hide p) W f σ H Q
def rdTx (T : Tb) (W : WX) (f : Vs → Sx → TK.R Bool) : TT := fun σ H Q => ∃ p, rdT (T.hide p) W f σ H Q
theorem pe_ex (h : ∀ p, PE X a (rdE (T.hide p) W fa)) : PE X a (rdEx T W fa) := ⟨fun pins s σ H Q I ⟨p, q⟩ => (h p).run pins s σ H Q I q⟩
theorem pt_ex {f : Vs → Sx → TK.R Bool} (h : ∀ p, PT X a (rdT (T.hide p) W f)) : PT X a (rdTx T W f) := ⟨fun pins s σ H Q I ⟨p, q⟩ => (h p).run pins s σ H Q I q⟩

/-! ### dicts of written keys -/
/-- the pairs of a display, by their keys -/
def PPd (X : Cx) (T : Tb) (W : WX) (pos : Pos) (keys : List (Option Expr)) (vals : List Expr) (ks : List Key) (fs : Vs → Sx → TK.R (List D)) : Prop :=
  ∃ trs, PPs X pos keys vals trs ∧ ∀ p σ H (Q : List (V × V) → Hp → Prop), (∃ s S m, RelV (T.hide p) H m s σ ∧ RelH (T.hide p) H m S ∧
    Ok (T.hide p) (fun c d H' => W c d σ H') H m (fun ds S' H' m' => ∀ vs, RepL (T.hide p) H' m' ds vs → Q ((ks.zip vs).map fun q => (kV q.1, q.2)) H') (fs s S)) → tPairs trs σ H Q
theorem ppd_nil : PPd X T W pos [] [] [] (fun _ S => .ok [] S) := ⟨[], pps_nil, fun p σ H Q ⟨s, S, m, hs, hS, h⟩ => h H m .refl hS [] rfl⟩
theorem pe_key {e : Expr} {q : Key} (h : (match e, q with | .Constant (.str x) _ _, .inr y => decide (x = y) | .Constant (.int n) _ _, .inl m => decide (n = m) | _, _ => false) = true) : PE X e (tC (kV q)) := by
  split at h
  · cases of_decide_eq_true h
    exact pe_str
  · cases of_decide_eq_true h
    exact pe_int
  · cases h
theorem ppd_cons {e : Expr} {q : Key} {keys : List (Option Expr)} {ks : List Key} (hk : PE X e (tC (kV q))) (ha : ∀ p, PE X a (rdE (T.hide p) W fa)) (hr : PPd X T W pos keys as ks fs) :
    PPd X T W pos (some e :: keys) (a :: as) (q :: ks) (fun s S => (fa s S).bind fun x S => (fs s S).bind fun xs S => .ok (x :: xs) S) := by
  obtain ⟨trs, h1, h2⟩ := hr
  refine ⟨_, pps_cons hk (pe_ex ha) h1, fun p σ H Q ⟨s, S, m, hs, hS, h⟩ => ?_⟩
  show tC (kV q) σ H fun x H1 => (rdEx T W fa) σ H1 fun y H2 => tPairs trs σ H2 fun ps H3 => Q ((x, y) :: ps) H3
  show (rdEx T W fa) σ H fun y H2 => tPairs trs σ H2 fun ps H3 => Q ((kV q, y) :: ps) H3
  refine ⟨p, s, S, m, hs, hS, h.bind.mono fun d S1 H1 m1 L1 R1 g v rv => ?_⟩
  refine h2 p σ H1 _ ⟨s, S1, m1, hs.mono L1, R1, g.bind.mono fun ds S2 H2 m2 L2 R2 g2 vs rvs => ?_⟩
  exact g2 H2 m2 .refl R2 (v :: vs) ⟨v, vs, rfl, RepV.mono L2 d v rv, rvs⟩
theorem putK_new {kvs : List (Key × V)} {k : Key} {v : V} (h : k ∉ kvs.map (·.1)) : putK kvs k v = kvs ++ [(k, v)] := by
  unfold putK
  rw [if_neg]
  intro q
  obtain ⟨p, hp, e⟩ := List.any_eq_true.mp q
  exact h (List.mem_map.mpr ⟨p, hp, of_decide_eq_true e⟩)
theorem merge_new : ∀ (more kvs : List (Key × V)), (kvs.map (·.1) ++ more.map (·.1)).Nodup → mergeK kvs more = kvs ++ more
  | [], kvs, _ => by simp [mergeK]
  | p :: r, kvs, h => by
    have hp : p.1 ∉ kvs.map (·.1) := fun q => by
      rw [List.nodup_append] at h
      exact h.2.2 _ q _ (List.mem_cons_self) rfl
    have : mergeK kvs (p :: r) = mergeK (putK kvs p.1 p.2) r := rfl
    rw [this, putK_new hp, merge_new r]
    · simp
    · simpa using h
theorem s_dct {tr : Bool} {keys : List (Option Expr)} {ks : List Key} (hd : PPd X T W pos keys as ks fs) (hall : keys.all (·.isSome) = true) (hl : keys.length = as.length) (h0 : keys ≠ []) (h15 : keys.length ≤ 15) (hkl : keys.length = ks.length) :
    PE X (.Dict keys as pos) (rdE T W fun s S => (fs s S).bind fun xs S => if xs.length = ks.length ∧ ks.length ≤ 15 ∧ ks.Nodup then (if tr = true then .ok (.obj S.length) (S ++ [.dk ks xs]) else .ok (.dv ks xs) S) else .bad) := by
  obtain ⟨trs, h1, h2⟩ := hd
  refine PE_imp (pe_disp h1 hall hl h0 h15) fun σ H Q ⟨s, S, m, hs, hS, h⟩ => ?_
  intro p hp
  have np := hS.new hp
  refine h2 p σ _ _ ⟨s, S, m, hs.hide hp, hS.hide hp, h.bind0.hid hp fun ds S1 H1 m1 L1 R1 g vs rvs => ?_⟩
  split at g
  · rename_i hc
    obtain ⟨c1, c2, c3⟩ := hc
    have hD : H1 p = some (.dK []) := L1.fr p _ upd_same np (fun _ e => nomatch e)
    have lv : vs.length = ks.length := by rw [← rvs.len]; exact c1
    have z1 : (ks.zip vs).map (·.1) = ks := by rw [List.map_fst_zip]; omega
    have z2 : (ks.zip vs).map (·.2) = vs := by rw [List.map_snd_zip]; omega
    refine ⟨hD, ks.zip vs, rfl, by rw [List.length_zip]; omega, ?_⟩
    rw [merge_new _ _ (by simpa [z1] using c3), List.nil_append]
    have e : ∀ a, a ≠ p → (upd H1 p (.dK (ks.zip vs))) a = H1 a := fun a q => upd_ne q
    have nt := nt_dk hD
    have nt2 : ∀ xs, ¬ Rd (upd H1 p (.dK (ks.zip vs))) p (.tup xs) := nt_dk upd_same
    have R2 := R1.off e nt (ntb_dk hD) ⟨_, upd_same⟩
    have r2 := RepL.off e nt _ _ rvs
    have L : Later H H1 m m1 := (later_new hp).trans L1
    have L2 : Later H (upd H1 p (.dK (ks.zip vs))) m m1 := L.off hp e
    -- the answer is held at the start
    cases tr with
    | true =>
      simp only [if_true] at g
      have r3 := RepL.adopt nt2 _ _ r2
      have L3 := L2.adopt hp np
      exact g _ (m1 ++ [p]) L3 (R2.adopt (hS.fresh hp) nt2 (ntb_dk upd_same) ⟨ks.zip vs, upd_same, z1, by rw [z2]; exact r3⟩) _ ⟨p, rfl, by rw [← R1.len]; simp⟩
    | false =>
      simp only [Bool.false_eq_true, if_false] at g
      exact g _ m1 L2 R2.unhide _ ⟨p, ks.zip vs, rfl, ⟨upd_same, (R1.hid p List.mem_cons_self).1, hS.fresh hp⟩, z1, by rw [z2]; exact RepL.unhide _ _ r2⟩
  · exact g.elim
end
end TK
end
section
set_option autoImplicit false
set_option linter.all false
set_option maxRecDepth 100000
namespace TK
open PySem L2 PySem.Spec PyProof.Rows

/-! ### targets -/
def off (σ' σ : L2.St) (is : List Nat) : Prop := σ'.length = σ.length ∧ ∀ i, i ∉ is → σ'[i]? = σ[i]?
theorem off.refl {σ : L2.St} {is : List Nat} : off σ σ is := ⟨rfl, fun _ _ => rfl⟩
theorem off.trans {σ1 σ2 σ3 : L2.St} {is js : List Nat} (a : off σ2 σ1 is) (b : off σ3 σ2 js) : off σ3 σ1 (is ++ js) :=
  ⟨b.1.trans a.1, fun i h => (b.2 i fun q => h (List.mem_append_right _ q)).trans (a.2 i fun q => h (List.mem_append_left _ q))⟩
theorem wipe_get {σ : L2.St} {i : Nat} : ∀ {vs : List Nat}, (L2.wipe σ vs)[i]? = if i ∈ vs ∧ i < σ.length then some none else σ[i]?
  | [] => by simp [L2.wipe]
  | v :: vs => by
    show ((L2.wipe σ vs).set v none)[i]? = _
    rw [List.getElem?_set, L2.wipe_length]
    by_cases h : v = i
    · subst h
      rw [if_pos rfl]
      by_cases hl : v < σ.length
      · simp [hl]
      · simp [hl]
    · rw [if_neg h, wipe_get]
      simp [Ne.symm h]
theorem off.wipe {σ' σ : L2.St} {is vs : List Nat} (h : off σ' σ is) (hs : ∀ i ∈ is, i ∈ vs) : L2.wipe σ' vs = L2.wipe σ vs := by
  refine List.ext_getElem? fun i => ?_
  rw [wipe_get, wipe_get, h.1]
  by_cases hi : i ∈ vs ∧ i < σ.length
  · rw [if_pos hi, if_pos hi]
  · rw [if_neg hi, if_neg hi]
    by_cases hv : i ∈ vs
    · have : ¬ i < σ.length := fun q => hi ⟨hv, q⟩
      rw [List.getElem?_eq_none (by rw [h.1]; omega), List.getElem?_eq_none (by omega)]
    · exact h.2 i fun q => hv (hs i q)
theorem wipe_wipe {σ : L2.St} {vs : List Nat} : L2.wipe (L2.wipe σ vs) vs = L2.wipe σ vs := by
  refine List.ext_getElem? fun i => ?_
  rw [wipe_get, L2.wipe_length, wipe_get]
  split <;> rfl
def rdG (T : Tb) (tg : Tg) : TG := fun x σ H Q => ∃ d s s' m, RepV T H m d x ∧ RelV T H m s σ ∧ asg tg d s = some s' ∧ ∀ σ', RelV T H m s' σ' → off σ' σ tg.slots → Q σ' H
def rdGs (T : Tb) (tgs : List Tg) : TGs := fun xs σ H Q => ∃ ds s s' m, RepL T H m ds xs ∧ RelV T H m s σ ∧ asgs tgs ds s = some s' ∧ ∀ σ', RelV T H m s' σ' → off σ' σ (Tg.slotss tgs) → Q σ' H
section
variable {X : Cx} {T : Tb} {W : WX} {a b c o i : Expr} {as : List Expr} {fa fb fc : Vs → Sx → TK.R D} {fs : Vs → Sx → TK.R (List D)} {pos apos p : Pos}
theorem PG_imp {e : Expr} {t t' : TG} (h : PG X e t) (w : ∀ x σ H Q, t' x σ H Q → t x σ H Q) : PG X e t' := ⟨fun pins s σ H v u Q I r q => h.run pins s σ H v u Q I r (w v σ H Q q)⟩
theorem PGs_imp {e : List Expr} {t t' : TGs} (h : PGs X e t) (w : ∀ x σ H Q, t' x σ H Q → t x σ H Q) : PGs X e t' := ⟨fun pins s σ H v u Q I r q => h.run pins s σ H v u Q I r (w v σ H Q q)⟩
theorem s_gname {i : Nat} {x : Str} (hN : X.N.Nodup) (hi : X.N[i]? = some x) (hx : Loc X.env.scope x) (hf : X.fn x = true ∨ X.env.scope.names.lookup x = some .local) : PG X (.Name x pos) (rdG T (.nm i)) :=
  PG_imp (pg_name hN hi hx hf) fun x σ H Q ⟨d, s, s', m, rd, hs, e, q⟩ => by
    cases e
    refine q _ (hs.set i rd) ⟨by simp, fun j hj => ?_⟩
    rw [List.getElem?_set, if_neg fun e => hj (by rw [← e]; simp [Tg.slots])]
theorem assign_len {env : PySem.Env} : ∀ {as : List Expr}, as.all notStar = true → (assignEach as env).length = as.length ∧ (assignEach as env).findIdx? (·.1) = none
  | [], _ => ⟨rfl, rfl⟩
  | e :: es, h => by
    rw [List.all_cons, Bool.and_eq_true] at h
    obtain ⟨h1, h2⟩ := assign_len (env := env) h.2
    have e1 : assignEach (e :: es) env = (false, assign e env) :: assignEach es env := by
      cases e <;> first | rfl | cases h.1
    rw [e1]
    refine ⟨by simp [h1], ?_⟩
    rw [List.findIdx?_cons]
    simp [h2]
theorem assign_cons {env : PySem.Env} {e : Expr} {es : List Expr} (h : notStar e = true) : (assignEach (e :: es) env).map (·.2) = assign e env :: (assignEach es env).map (·.2) := by
  cases e <;> first | rfl | cases h
theorem s_gs_nil : PGs X [] (rdGs T []) := PGs_imp pgs_nil fun xs σ H Q ⟨ds, s, s', m, rd, hs, e, q⟩ => by
  cases ds with
  | nil =>
    cases e
    exact ⟨rd, q _ hs .refl⟩
  | cons d ds => cases e
theorem s_gs_cons {tg : Tg} {tgs : List Tg} (hst : notStar a = true) (h1 : PG X a (rdG T tg)) (h2 : PGs X as (rdGs T tgs)) : PGs X (a :: as) (rdGs T (tg :: tgs)) :=
  PGs_imp (pgs_cons h1 h2 (assign_cons hst)) fun xs σ H Q ⟨ds, s, s', m, rd, hs, e, q⟩ => by
    cases ds with
    | nil => cases e
    | cons d ds =>
      obtain ⟨v, r, rfl, r1, r2⟩ := rd
      simp only [asgs] at e
      split at e
      · rename_i s1 e1
        exact ⟨v, r, rfl, d, s, s1, m, r1, hs, e1, fun σ1 k1 o1 => ⟨ds, s1, s', m, r2, k1, e, fun σ2 k2 o2 => q σ2 k2 (o1.trans o2)⟩⟩
      · cases e
theorem s_gtup {tgs : List Tg} {k : Nat} (hK : X.K = T.K) (hc : X.calm = true) (hst : as.all notStar = true) (hl : as.length = tgs.length) (h : PGs X as (rdGs T tgs)) : PG X (.Tuple as k pos) (rdG T (.tp tgs)) :=
  PG_imp (pg_tup hc h ((assign_len hst).1.trans hl) (assign_len hst).2) fun x σ H Q ⟨d, s, s', m, rd, hs, e, q⟩ => by
    cases d with
    | tup ds =>
      obtain ⟨a, xs, rfl, h1, h2⟩ := rd
      have lens : ∀ (tgs : List Tg) (ds : List D) (s s' : Vs), asgs tgs ds s = some s' → ds.length = tgs.length := by
        intro tgs
        induction tgs with
        | nil => intro ds s s' e; cases ds with
          | nil => rfl
          | cons d ds => cases e
        | cons t tgs ih => intro ds s s' e; cases ds with
          | nil => cases e
          | cons d ds =>
            simp only [asgs] at e
            split at e
            · simp [ih _ _ _ e]
            · cases e
      have l1 := lens _ _ _ _ e
      exact ⟨a, xs, rfl, TupAt.sq hK h1, by rw [← h2.len, l1], ds, s, s', m, h2, hs, e, q⟩
    | _ => cases e

/-! ### what is walked -/
def Tb.hides (T : Tb) (hs : List Addr) : Tb := { T with hid := hs ++ T.hid }
theorem RepV.hides {H : Hp} {m : List Addr} : ∀ {hs : List Addr}, (∀ p ∈ hs, H p = none) → ∀ (d : D) (v : V), RepV T H m d v → RepV (T.hides hs) H m d v
  | [], _, d, v, h => h
  | p :: hs, hp, d, v, h => RepV.hide (T := T.hides hs) (hp p List.mem_cons_self) d v (RepV.hides (fun q hq => hp q (List.mem_cons_of_mem _ hq)) d v h)
theorem RepL.hides {H : Hp} {m : List Addr} : ∀ {hs : List Addr}, (∀ p ∈ hs, H p = none) → ∀ (d : List D) (v : List V), RepL T H m d v → RepL (T.hides hs) H m d v
  | [], _, d, v, h => h
  | p :: hs, hp, d, v, h => RepL.hide (T := T.hides hs) (hp p List.mem_cons_self) d v (RepL.hides (fun q hq => hp q (List.mem_cons_of_mem _ hq)) d v h)
def DWalk (T : Tb) (J : L2.It) (xs : List D) (still : Sx → Bool) (H0 : Hp) (m0 : List Addr) : Prop :=
  ∀ hs : List Addr, (∀ p ∈ hs, H0 p = none) → ∀ H m S, Later H0 H m0 m → RelH (T.hides hs) H m S → still S = true →
    (∀ i, i < xs.length → J.go i H) ∧ J.stop xs.length H ∧ ∀ i x H', i < xs.length → J.yld i H x H' → ∃ d, xs[i]? = some d ∧ RepV (T.hides hs) H' m d x ∧ RelH (T.hides hs) H' m S ∧ Later H H' m m
abbrev TDi := Vs → Sx → TK.R (List D × (Sx → Bool))
def rdI (T : Tb) (W : WX) (f : TDi) : TI := fun σ H R => ∃ s S m, RelV T H m s σ ∧ RelH T H m S ∧ Ok T (fun c d H' => W c d σ H') H m (fun q _ H' m' => ∀ J, DWalk T J q.1 q.2 H' m' → R J H') (f s S)
theorem PI_imp {tg e : Expr} {t t' : TI} (h : PI X tg e t) (w : ∀ σ H Q, t' σ H Q → t σ H Q) : PI X tg e t' := ⟨fun pins s σ H Q I q => h.run pins s σ H Q I (w σ H Q q)⟩
/-- a list or a tuple -/
def iSeq (K : PySem.W.Frag) (tl : TE) : TI := fun σ H R => tl σ H fun x H1 => ∃ a, x = .ref a ∧ (((∃ xs, SqL K H1 a xs) ∧ R (Itl K a) H1) ∨ ((∃ xs, SqT K H1 a xs) ∧ R (Itt K a) H1))
theorem pi_seq {tg l : Expr} {tl : TE} (hl : PE X l tl) : PI X tg l (iSeq X.K tl) := by
  refine ⟨fun pins s σ H R I h => thn (hl.run pins s σ H _ I h) fun v s1 ⟨x, H1, I1, r1, a, e, q⟩ => ?_⟩
  subst e
  cases r1
  have one : ∀ b ∈ [s1.heap.objs.size], FpOk X pins H1 b := fun b hb => by
    rw [List.mem_singleton.mp hb]
    exact I1.fpOk (Nat.le_refl _) (I1.hok.fresh (Nat.le_refl _))
  rcases q with ⟨⟨xs, hq⟩, q⟩ | ⟨⟨xs, hq⟩, q⟩
  · obtain ⟨its, rv, p, hz⟩ := I1.list hq
    exact wpAny_pyIter_list p.isList ⟨_, [s1.heap.objs.size], _, _, H1, rfl, I1.kept (t' := s1.toks) fun b o e => Heap.get?_push_of_some _ e, turn_list a _, ⟨_, Heap.get?_push_size _ rfl, rfl, rfl⟩, one, q⟩
  · obtain ⟨its, rv, p, hz⟩ := I1.tuple hq
    exact wpAny_pyIter_tuple (show s1.heap.IsTuple a its.toArray from p) ⟨_, [s1.heap.objs.size], _, _, H1, rfl, I1.kept (t' := s1.toks) fun b o e => Heap.get?_push_of_some _ e, turn_tuple a _, ⟨_, Heap.get?_push_size _ rfl, rfl, rfl⟩, one, q⟩
theorem sqT_of {H : Hp} {m : List Addr} {a : Addr} {xs : List V} (h1 : TupAt T H m a xs) : SqT T.K H a xs := by
  rcases h1 with h1 | h1
  · exact .inl h1.1
  · rcases h1 with h1 | h1
    · rcases h1 with h1 | ⟨_, h1⟩ <;> cases h1
    · exact .inr h1
/-- the walk by what stands at each turn -/
theorem dw_seq {J : L2.It} {K : PySem.W.Frag} {H : Hp} {m : List Addr} {S : Sx} {xs : List D} {vs : List V} {G : Hp → Prop} (w : Walk J vs.length G (YAt vs)) (g : G H) (r : RepL T H m xs vs) (R : RelH T H m S) :
    (∀ i, i < xs.length → J.go i H) ∧ J.stop xs.length H ∧ ∀ i x H', i < xs.length → J.yld i H x H' → ∃ d, xs[i]? = some d ∧ RepV T H' m d x ∧ RelH T H' m S ∧ Later H H' m m := by
  rw [r.len]
  refine ⟨fun i hi => w.goes i H hi g, w.stops H g, fun i x H' hi y => ?_⟩
  obtain ⟨rfl, e⟩ := w.yields i H x H' hi g y
  obtain ⟨d, e2, rd⟩ := r.get' e
  exact ⟨d, e2, rd, R, .refl⟩
theorem lst_cases {d : D} {S : Sx} {xs : List D} (e : lstOf d S = some xs) : d = .lv xs ∨ ∃ n, d = .obj n ∧ S[n]? = some (.lst xs) := by
  cases d with
  | lv ds => cases e; exact .inl rfl
  | obj n =>
    simp only [lstOf] at e
    split at e
    · rename_i e2
      cases e
      exact .inr ⟨n, rfl, e2⟩
    · cases e
  | _ => cases e
/-- a list stands still at its place -/
theorem lst_still {H0 : Hp} {m0 : List Addr} {S0 : Sx} (R0 : RelH T H0 m0 S0) {d : D} {v : V} {xs : List D} (r : RepV T H0 m0 d v) (e : lstOf d S0 = some xs) : ∃ a, v = .ref a ∧ ∀ hs : List Addr, (∀ p ∈ hs, H0 p = none) → ∀ H m S, Later H0 H m0 m → RelH (T.hides hs) H m S → stillOf d xs S = true →
    ∃ vs, SqL T.K H a vs ∧ RepL (T.hides hs) H m xs vs := by
  rcases lst_cases e with rfl | ⟨n, rfl, e⟩
  · obtain ⟨a, vs, rfl, h1, h2⟩ := r
    refine ⟨a, rfl, fun hs hp H m S L R _ => ⟨vs, .inl (.inl (L.at_ h1).1), RepL.mono L _ _ (RepL.hides hp _ _ h2)⟩⟩
  · obtain ⟨a, rfl, h1⟩ := r
    refine ⟨a, rfl, fun hs hp H m S L R st => ?_⟩
    obtain ⟨vs, h2, h3⟩ := R.obj n a _ (L.get h1) (of_decide_eq_true st)
    exact ⟨vs, .inl (.inl h2), h3⟩
theorem still_now {d : D} {S : Sx} {xs : List D} (e : lstOf d S = some xs) : stillOf d xs S = true := by
  rcases lst_cases e with rfl | ⟨n, rfl, e⟩
  · rfl
  · simp only [lstOf] at e
    split at e
    · rename_i e2
      cases e
      exact decide_eq_true e2
    · cases e
def seqI (d : D) (S : Sx) : TK.R (List D × (Sx → Bool)) := match seqOf d S with
  | some xs => .ok (xs, stillOf d xs) S
  | none => .bad
theorem si_e {tg : Expr} (hK : X.K = T.K) (ha : PE X a (rdE T W fa)) : PI X tg a (rdI T W fun s S => (fa s S).bind fun d S => seqI d S) :=
  PI_imp (pi_seq ha) fun σ H Q ⟨s, S, m, hs, hS, h⟩ => ⟨s, S, m, hs, hS, h.bind.mono fun d S1 H1 m1 L1 R1 q v rv => by
    unfold seqI at q
    split at q
    · rename_i xs e
      have q := q H1 m1 .refl R1
      rcases seq_cases e with rfl | e3
      · obtain ⟨a, vs, rfl, h1, h2⟩ := rv
        refine ⟨a, rfl, .inr ⟨⟨vs, TupAt.sq hK h1⟩, q _ fun hs hp H m S L R _ => ?_⟩⟩
        rw [hK]
        have h3 : RepV T H1 m1 (.tup xs) (.ref a) := ⟨a, vs, rfl, h1, h2⟩
        obtain ⟨a', vs', e1, k1, k2⟩ := RepV.mono L _ _ (RepV.hides hp _ _ h3)
        cases e1
        exact dw_seq (K := T.K) (walk_tup) (sqT_of k1) k2 R
      · clear e
        obtain ⟨a, rfl, f⟩ := lst_still R1 rv e3
        obtain ⟨vs0, g0, _⟩ := f [] (by simp) H1 m1 S1 .refl R1 (still_now e3)
        refine ⟨a, rfl, .inl ⟨⟨vs0, by rw [hK]; exact g0⟩, q _ fun hs hp H m S L R st => ?_⟩⟩
        rw [hK]
        obtain ⟨vs, g, r⟩ := f hs hp H m S L R st
        exact dw_seq (K := T.K) walk_list g r R
    · exact q.elim⟩
theorem len_rng (a b : Int) : (rngL a b).length = (b - a).toNat := by simp [rngL]
theorem dw_rng {lo hi : Int} {H : Hp} {m : List Addr} : DWalk T (Itr lo (hi - lo).toNat) (rngL lo hi) (fun _ => true) H m := by
  intro hs hp H m S L R _
  rw [len_rng]
  refine ⟨fun i hi => hi, Nat.le_refl _, fun i x H' hl y => ?_⟩
  obtain ⟨rfl, rfl⟩ := y
  refine ⟨.int (lo + i), ?_, rfl, R, .refl⟩
  simp [rngL, List.getElem?_range hl]
def rngI (l : Option Int) (h : D) (S : Sx) : TK.R (List D × (Sx → Bool)) := (lift (intD h) S).bind fun h S => if (-(2 ^ 62) ≤ l.getD 0 ∧ l.getD 0 < 2 ^ 62) ∧ (-(2 ^ 62) ≤ h ∧ h < 2 ^ 62) then .ok (rngL (l.getD 0) h, fun _ => true) S else .bad
theorem si_rng1 {tg : Expr} (hst : notStar a = true) (hg : Gl X "range") (hm : X.mg "range" = none) (ha : PE X a (rdE T W fa)) : PI X tg (.Call (.Name "range" p) [a] [] pos) (rdI T W fun s S => (R.ok none S).bind fun l S => (fa s S).bind fun h S => rngI l h S) :=
  PI_imp (pi_range1 hg hm (pa_cons ha pa_nil (star_cons hst [] X.env)) (star_cons hst [] X.env)) fun σ H Q ⟨s, S, m, hs, hS, h⟩ => ⟨s, S, m, hs, hS, (show Ok T _ H m _ ((fa s S).bind fun h S => rngI none h S) from h).bind.mono fun d S1 H1 m1 L1 R1 q v rv => by
    unfold rngI at q
    obtain ⟨j, e, q1⟩ := lift_ok q.bind
    have q3 := q1 H1 m1 .refl R1
    clear q q1
    cases d with
    | int j' =>
      cases e
      dsimp only at q3
      split at q3
      · rename_i hc
        rw [show v = .int j from rv]
        refine ⟨j, rfl, hc.2.1, hc.2.2, q3 H1 m1 .refl R1 _ ?_⟩
        have := dw_rng (T := T) (lo := 0) (hi := j) (H := H1) (m := m1)
        rw [Int.sub_zero] at this
        exact this
      · exact q3.elim
    | _ => cases e⟩
theorem si_rng2 {tg : Expr} (hst : notStar a = true) (hst2 : notStar b = true) (hg : Gl X "range") (hm : X.mg "range" = none) (ha : PE X a (rdE T W fa)) (hb : PE X b (rdE T W fb)) :
    PI X tg (.Call (.Name "range" p) [a, b] [] pos) (rdI T W fun s S => ((fa s S).bind fun d S => (lift (intD d) S).bind fun i S => .ok (some i) S).bind fun l S => (fb s S).bind fun h S => rngI l h S) :=
  PI_imp (pi_range2 hg hm (pa_cons ha (pa_cons hb pa_nil (star_cons hst2 [] X.env)) (star_cons hst [b] X.env)) (by rw [star_cons hst, star_cons hst2] <;> rfl) (star_cons hst2 [] X.env)) fun σ H Q ⟨s, S, m, hs, hS, h⟩ => by
    have h : Ok T _ H m _ (((fa s S).bind fun d S => (lift (intD d) S).bind fun i S => .ok (some i) S).bind fun l S => (fb s S).bind fun h S => rngI l h S) := h
    rw [bind_assoc] at h
    refine ⟨s, S, m, hs, hS, h.bind.mono fun d S1 H1 m1 L1 R1 q v rv => ?_⟩
    rw [bind_assoc] at q
    obtain ⟨i, e, q1⟩ := lift_ok q.bind
    have q3 := q1 H1 m1 .refl R1
    clear q q1
    cases d with
    | int i' =>
      cases e
      refine ⟨s, S1, m1, hs.mono L1, R1, (show Ok T _ H1 m1 _ ((fb s S1).bind fun h S => rngI (some i) h S) from q3).bind.mono fun d2 S2 H2 m2 L2 R2 q2 u ru => ?_⟩
      unfold rngI at q2
      obtain ⟨j, e, q4⟩ := lift_ok q2.bind
      have q5 := q4 H2 m2 .refl R2
      clear q2 q4
      cases d2 with
      | int j' =>
        cases e
        dsimp only at q5
        split at q5
        · rename_i hc
          rw [show v = .int i from rv, show u = .int j from ru]
          exact ⟨i, j, rfl, ⟨hc.1.1, hc.1.2, hc.2.1, hc.2.2⟩, q5 H2 m2 .refl R2 _ dw_rng⟩
        · exact q5.elim
      | _ => cases e
    | _ => cases e
end
end TK
end
section
set_option autoImplicit false
set_option linter.all false
set_option maxRecDepth 100000
namespace TK
open PySem L2 PySem.Spec PyProof.Rows

/-- no exception is wished for -/
def noW : WX := fun _ _ _ _ => False
theorem takes_no {X : Cx} : Takes X noW := fun u s' ⟨_, _, _, _, _, _, _, _, _, _, _, _, _, _, _, _, w⟩ => w.elim
theorem flat_no : Flat noW := fun _ _ _ _ _ h => h
def notSet : Expr → Bool
  | .Set _ _ _ => false
  | _ => true
theorem fold_not {e : Expr} {env : PySem.Env} (h : notSet e = true) (x : Value) : foldedSetIterable e env x = pure x := by
  cases e <;> first | rfl | cases h
section
variable {X : Cx} {T : Tb} {W : WX} {a b c o i elt iter tg : Expr} {ifs : List Expr} {fa fb fc : Vs → Sx → TK.R D} {fs : Vs → Sx → TK.R (List D)} {pos apos p : Pos} {tg' : Tg} {fi : TDi} {fe : Vs → Sx → TK.R D} {ft : Vs → Sx → TK.R Bool} {vs : List Nat} {still : Sx → Bool}
/-- a comprehension's list, as the walk goes on -/
def rdGx (T : Tb) (tg : Tg) : TG := fun x σ H Q => ∃ p, rdG (T.hide p) tg x σ H Q
theorem pg_ex (h : ∀ p, PG X tg (rdG (T.hide p) tg')) : PG X tg (rdGx T tg') := ⟨fun pins s σ H v u Q I r ⟨p, q⟩ => (h p).run pins s σ H v u Q I r q⟩
theorem nox_ok {a : Type} {r : TK.R a} {b : Type} {f : a → Sx → TK.R b} {E : XK} {H : Hp} {m : List Addr} {P : b → Sx → Hp → List Addr → Prop} (h : Ok T E H m P (r.nox.bind f)) : ∃ x S, r = .ok x S ∧ Ok T E H m P (f x S) := by
  cases r with
  | ok x S => exact ⟨x, S, rfl, h⟩
  | exc c v S => exact h.elim
  | bad => exact h.elim
/-- the turn's result -/
theorem bind_nox {a b : Type} {r : TK.R a} {f : a → Sx → TK.R b} {y : b} {S' : Sx} (h : r.bind f = .ok y S') : ∃ x S, r = .ok x S ∧ f x S = .ok y S' := by
  cases r with
  | ok x S => exact ⟨x, S, rfl, h⟩
  | exc c v S => cases h
  | bad => cases h
theorem lc_ok {tr : Bool} {J : L2.It} {σ : L2.St} {H1 : Hp} {m1 : List Addr} {S1 : Sx} {s : Vs} {E : XK} {Q : VK} {xs : List D} (hs : RelV T H1 m1 s σ) (R1 : RelH T H1 m1 S1) (w : DWalk T J xs still H1 m1) (hv : ∀ i ∈ tg'.slots, i ∈ vs)
    (h : Ok T E H1 m1 (PV T Q) ((lcL tg' ft fe still (wipeV s vs) xs [] S1).nox.bind fun ys S => newL tr ys S)) {Dl : Addr} (hD : H1 Dl = none) :
    ∃ Wi : Nat → Nat → Hp → Prop, (∃ n, Wi 0 n (upd H1 Dl (.lst []))) ∧ ∀ i n H, Wi i n H →
      (J.stop i H ∧ Q (.ref Dl) H) ∨ (J.go i H ∧ ∃ Nx : Hp → Prop, (∀ H', Nx H' → ∃ n', n' < n ∧ Wi (i + 1) n' H') ∧ ∀ x H', J.yld i H x H' → rdGx T tg' x (L2.wipe σ vs) H' fun σ2 H2 => L2.wipe σ2 vs = L2.wipe σ vs ∧ rdTx T noW ft σ2 H2 fun b H3 =>
        if b = true then rdEx T noW fe σ2 H3 fun y H4 => ∃ acc, H4 Dl = some (.lst acc) ∧ acc.length < sizeLine ∧ Nx (upd H4 Dl (.lst (acc ++ [y]))) else Nx H3) := by
  obtain ⟨ys, Sy, ey, h⟩ := nox_ok h
  have nD := R1.new hD
  refine ⟨fun i n H => n = xs.length - i ∧ i ≤ xs.length ∧ ∃ m S acc ws, Later H1 H m1 m ∧ RelH (T.hide Dl) H m S ∧ RelV (T.hide Dl) H m (wipeV s vs) (L2.wipe σ vs) ∧ H Dl = some (.lst ws) ∧ RepL (T.hide Dl) H m acc ws ∧ lcL tg' ft fe still (wipeV s vs) (xs.drop i) acc S = .ok ys Sy, ⟨xs.length, by simp, Nat.zero_le _, m1, S1, [], [], later_new hD, R1.hide hD, (hs.wipe vs).hide hD, upd_same, rfl, by simpa using ey⟩, ?_⟩
  rintro i n H ⟨rfl, hi, m, S, acc, ws, L, R, rv, eD, ra, el⟩
  have nDm : Dl ∉ m := (R.hid Dl List.mem_cons_self).1
  have hst : still S = true := by
    cases hx : xs.drop i with
    | nil =>
      rw [hx] at el
      unfold lcL at el
      split at el
      · assumption
      · cases el
    | cons d ds =>
      rw [hx] at el
      unfold lcL at el
      split at el
      · assumption
      · cases el
  obtain ⟨w1, w2, w3⟩ := w [Dl] (fun q hq => by rw [List.mem_singleton.mp hq]; exact hD) H m S L R hst
  by_cases hlt : i < xs.length
  · refine .inr ⟨w1 i hlt, _, fun H' q => ⟨xs.length - (i + 1), by omega, q⟩, fun x H' y => ?_⟩
    obtain ⟨d, e1, rd, R', L'⟩ := w3 i x H' hlt y
    have hdr : xs.drop i = d :: xs.drop (i + 1) := by
      rw [List.drop_eq_getElem_cons hlt]
      congr 1
      exact Option.some.inj ((List.getElem?_eq_getElem hlt).symm.trans e1)
    rw [hdr] at el
    unfold lcL at el
    rw [if_pos hst] at el
    split at el
    · rename_i s1 es1
      refine ⟨Dl, d, _, s1, m, rd, rv.mono L', es1, fun σ2 r2 o2 => ⟨?_, ?_⟩⟩
      · rw [o2.wipe hv, wipe_wipe]
      · obtain ⟨b, S2, eb, el⟩ := bind_nox el
        refine ⟨Dl, s1, S, m, r2, R', ?_⟩
        rw [eb]
        intro H3 m3 L3 R3
        have rs3 := rv.mono (L'.trans L3)
        have L13 := L.trans (L'.trans L3)
        have eD3 : H3 Dl = some (.lst ws) := (L'.trans L3).fr _ _ eD nDm (fun _ e => nomatch e)
        have ra3 := RepL.mono (L'.trans L3) _ _ ra
        cases b with
        | false =>
          simp only [Bool.false_eq_true, if_false] at el ⊢
          exact ⟨by first | rfl | trivial, hlt, m3, S2, acc, ws, L13, R3, rs3, eD3, ra3, el⟩
        | true =>
          simp only [if_true] at el ⊢
          obtain ⟨y, S4, ey4, el⟩ := bind_nox el
          refine ⟨Dl, s1, S2, m3, r2.mono L3, R3, ?_⟩
          rw [ey4]
          intro H4 m4 L4 R4 v rv4
          have eD4 : H4 Dl = some (.lst ws) := L4.fr _ _ eD3 (R3.hid Dl List.mem_cons_self).1 (fun _ e => nomatch e)
          split at el
          · rename_i hlen
            refine ⟨ws, eD4, by rw [← ra.len]; exact hlen, by first | rfl | trivial, hlt, m4, S4, acc ++ [y], ws ++ [v], ?_⟩
            have e : ∀ a, a ≠ Dl → (upd H4 Dl (.lst (ws ++ [v]))) a = H4 a := fun a q => upd_ne q
            have nt := nt_lst eD4
            exact ⟨(L13.trans L4).off hD e, R4.off e nt (ntb_lst eD4) ⟨_, upd_same⟩, (rs3.mono L4).off e nt, upd_same, RepL.off e nt _ _ ((RepL.mono L4 _ _ ra3).append (.one rv4)), el⟩
          · cases el
    · cases el
  · have e : i = xs.length := by omega
    subst e
    refine .inl ⟨w2, ?_⟩
    rw [List.drop_length] at el
    unfold lcL at el
    rw [if_pos hst] at el
    cases el
    have nt := nt_lst eD
    unfold newL at h
    split at h
    · cases tr with
      | true =>
        simp only [if_true] at h
        exact h H (m ++ [Dl]) (L.adopt hD nD) (R.adopt (R1.fresh hD) nt (ntb_lst eD) ⟨ws, eD, RepL.adopt nt _ _ ra⟩) _ ⟨Dl, rfl, by rw [← R.len]; simp⟩
      | false =>
        simp only [Bool.false_eq_true, if_false] at h
        exact h H m L R.unhide _ ⟨Dl, ws, rfl, ⟨eD, nDm, R1.fresh hD⟩, RepL.unhide _ _ ra⟩
    · exact h.elim
theorem rd_lc {tr : Bool} {σ : L2.St} {H : Hp} {Q : VK} (hv : ∀ i ∈ tg'.slots, i ∈ vs) (h : rdE T W (fun s S => (fi s S).bind fun xs S => (lcL tg' ft fe xs.2 (wipeV s vs) xs.1 [] S).nox.bind fun ys S => newL tr ys S) σ H Q) :
    tLc (rdI T W fi) (rdGx T tg') (rdTx T noW ft) (rdEx T noW fe) vs σ H Q := by
  obtain ⟨s, S, m, hs, hS, h⟩ := h
  refine ⟨s, S, m, hs, hS, h.bind.mono fun q S1 H1 m1 L1 R1 g J w Dl hD => ?_⟩
  exact lc_ok (hs.mono L1) R1 w hv g hD
/-- a comprehension's tests: none, or one -/
theorem pts_ex0 : PTs X [] (rdTx T W fun _ S => .ok true S) := ⟨fun pins s σ H Q I ⟨p, s0, S, m, hs, hS, q⟩ => pts_nil.run pins s σ H Q I (q H m .refl hS)⟩
theorem pts_ex1 (h : ∀ p, PT X c (rdT (T.hide p) W ft)) : PTs X [c] (rdTx T W ft) := pts_one (pt_ex h)
section
variable {scope : Scope} {own : List (Str × Nat)} {tr : Bool}
theorem s_lc (hc : X.calm = true) (hN : X.N.Nodup) (hi : PI X tg iter (rdI T W fi)) (ok : BlkOk X.N X.env.scope scope own) (hv : ∀ i ∈ tg'.slots, i ∈ own.map (·.2)) (hset : notSet iter = true)
    (hg : ∀ (s : Shared) (H : Hp) (C : Addr) (cl : List (Str × Addr)) (fp : List Addr) (p : Addr), PG (X.blk s H scope (compEnvC scope cl C X.env) fp) tg (rdG (T.hide p) tg'))
    (ht : ∀ (s : Shared) (H : Hp) (C : Addr) (cl : List (Str × Addr)) (fp : List Addr), PTs (X.blk s H scope (compEnvC scope cl C X.env) fp) ifs (rdTx T noW ft))
    (he : ∀ (s : Shared) (H : Hp) (C : Addr) (cl : List (Str × Addr)) (fp : List Addr) (p : Addr), PE (X.blk s H scope (compEnvC scope cl C X.env) fp) elt (rdE (T.hide p) noW fe)) :
    PE X (.ListComp elt [⟨tg, iter, ifs, 0⟩] scope pos) (rdE T W fun s S => (fi s S).bind fun xs S => (lcL tg' ft fe xs.2 (wipeV s (own.map (·.2))) xs.1 [] S).nox.bind fun ys S => newL tr ys S) :=
  PE_imp (pe_lc hc hN hi ok (fun s H C cl fp => pg_ex (hg s H C cl fp)) ht (fun s H C cl fp => pe_ex (he s H C cl fp)) (fold_not hset)) fun σ H Q h => rd_lc hv h
end
end
end TK
end
section
set_option autoImplicit false
set_option linter.all false
set_option maxRecDepth 100000
set_option maxHeartbeats 1000000
/-! all(test for x in e): the tests are expressions of any kind -/
namespace TK
open PySem L2 PySem.Spec PyProof.Rows GenW

/-- the frame of a generator expression -/
abbrev gcx (X : Cx) (A' : Around) (s : Shared) (H : Hp) (genv : PySem.Env) (fp : List Addr) (pn : List (Addr × Obj)) : Cx :=
  { X with A := A', s_0 := s, H_0 := H, env := genv, outer := X.stack, stack := genv :: X.stack, ex := fp, fn := fun _ => false, pn := pn, xe := fun _ _ => False }
/-- the end of the walk -/
def GEnd (XG : Cx) (Q : VK) : GenEnd := fun n s₀ r s₁ => ((r = .ok (.ret .none) ∨ r = .ok .next) ∧ ∃ pins σ H, Inv XG pins σ H s₁ ∧ Q (.bl true) H) ∨ ∃ e, r = .error e ∧ False
/-- a test's answer is handed out -/
def GOut (XG : Cx) (Q : VK) : Protocol := fun n s₀ v s kap => ∃ b, v = .bool b ∧ ∃ pins σ H, Inv XG pins σ H s ∧
  ((b = false ∧ Q (.bl false) H) ∨ (b = true ∧ ∀ s'' : Shared, s''.os = s.os → s''.heap = s.heap → AllBare s''.gens → kap (.send .none) s''))
theorem inv_gens {X : Cx} {pins : List (Addr × Obj)} {σ : L2.St} {H : Hp} {s s'' : Shared} (I : Inv X pins σ H s) (ho : s''.os = s.os) (hh : s''.heap = s.heap) (hg : AllBare s''.gens) : Inv X pins σ H s'' :=
  I.call' (ch := []) ho (by rw [hh]; exact Un.kept fun _ _ e => e) (by rw [hh]; exact I.hok) hg fun b z => by cases z
section
variable {XG : Cx} {A2 : Around} {elt tg iter : Expr} {scope : Scope} {pos : Pos} {it : Addr} {fp : List Addr} {tn : Nat → Heap → Prop} {J : L2.It} {g : TG} {te : TE} {vs : List Nat} {σ0 : L2.St} {Q : VK} {W : Nat → Nat → Hp → Prop}
def genC (elt tg iter : Expr) (scope : Scope) (pos : Pos) (it : Addr) (env : PySem.Env) : Code := .compLoop (.GeneratorExp elt [⟨tg, iter, [], 0⟩] scope pos) 0 (.ref it) .none env
theorem gen_loop (hA : XG.A = A2.over (genC elt tg iter scope pos it XG.env) []) (hc : XG.calm = true) (hxe : XG.xe = fun _ _ => False) (hco : XG.env.scope.isCoroutine = false) (T : Turn XG.prog XG.w XG.K tg J fp it tn)
    (stat : ∀ σ H s, Inv XG [] σ H s → (∀ b ∈ fp, H b = none) → ∀ b ∈ fp, FpOk XG [] H b) (pg : PG XG tg g) (pe : PE XG elt te) (hw0 : L2.wipe σ0 vs = σ0)
    (turn : ∀ i n H, W i n H → (J.stop i H ∧ Q (.bl true) H) ∨ (J.go i H ∧ ∃ Nx : Hp → Prop, (∀ H', Nx H' → ∃ n', n' < n ∧ W (i + 1) n' H') ∧ ∀ x H', J.yld i H x H' → g x σ0 H' fun σ2 H2 => L2.wipe σ2 vs = σ0 ∧ te σ2 H2 fun y H3 => ∃ b, y = .bl b ∧ (if b = true then Nx H3 else Q (.bl false) H3))) :
    ∀ (m i n : Nat) (s₀ s : Shared) (H : Hp), W i m H → m < n → Inv XG [] σ0 H s → tn i s.heap → (∀ b ∈ fp, H b = none) →
      Seg (model XG.prog XG.w) A2 (GEnd XG Q) (GOut XG Q) n s₀ (genC elt tg iter scope pos it XG.env) ((model XG.prog XG.w).den (genC elt tg iter scope pos it XG.env)) [] s := by
  have pgr := fun pins s σ H v u Q' I r h => pg.run pins s σ H v u Q' I r h
  have per := fun pins s σ H Q' I h => pe.run pins s σ H Q' I h
  rw [hxe] at pgr per
  intro m
  induction m using Nat.strongRecOn with
  | ind m ih =>
    intro i n s₀ s H w hmn I st nf
    show Seg _ A2 _ _ _ s₀ _ ((compTurn (.GeneratorExp elt [⟨tg, iter, [], 0⟩] scope pos) 0 (.ref it) .none XG.env).onRaise (leaving XG.env)) [] s
    rw [compTurn_gen, Sem.onRaise_eq_wrap]
    refine seg_bind_wrap (wpAny_standAt ?_)
    rcases turn i m H w with ⟨stop, qq⟩ | ⟨go, Nx, hNx, step⟩
    · have td := T.done XG rfl rfl rfl hc i [] s _ H (fun _ _ => False) I (stat _ _ _ I nf) st stop
      rw [hA] at td
      refine seg_bind_wrap (thnF td fun r s6 ⟨hr, I6⟩ => ?_)
      subst hr
      exact seg_end (.ok .next) (.inl ⟨.inr rfl, _, _, _, I6, qq⟩)
    · have ti := T.item XG rfl rfl rfl hc i [] s _ H (fun _ _ => False) I (stat _ _ _ I nf) st go
      rw [hA] at ti
      refine seg_bind_wrap (thnF ti fun r s6 ⟨u, hr, h6⟩ => ?_)
      subst hr
      refine seg_bind_wrap (thnF h6 fun _ s7 ⟨x, H7, I7, r7, y7, st7, n7⟩ => ?_)
      have I7' := I7.pinned (stat _ _ _ I7 n7) (T.obj _ _ st7)
      have ga := pgr _ s7 _ H7 x u _ I7' r7 (step x H7 y7)
      rw [hA] at ga
      refine seg_bind_wrap (thnF ga fun _ s8 ⟨σ8, H8, I8, hw8, q8⟩ => ?_)
      simp only [List.forIn_nil]
      refine seg_bind_wrap (wpAny_pure ?_)
      simp only [if_true]
      have hy : ∀ v, yieldOut XG.env v = yieldValue v := fun v => by simp only [yieldOut, hco, Bool.false_eq_true, if_false]
      simp only [hy]
      rw [Sem.bind_eq_wrap', Sem.bind_eq_wrap', Sem.wrap_wrap, Sem.wrap_wrap]
      have ge := per _ s8 σ8 H8 _ I8 q8
      rw [hA] at ge
      refine seg_wrap (thnF ge fun y s9 ⟨z, H9, I9, r9, b, eb, q9⟩ => ?_)
      subst eb
      obtain rfl : y = Value.bool b := r9
      cases b with
      | false =>
        simp only [Bool.false_eq_true, if_false] at q9
        obtain ⟨n, rfl⟩ : ∃ k, n = k + 1 := ⟨n - 1, by omega⟩
        exact seg_at (seg_yield rfl rfl rfl ⟨false, rfl, _, _, _, I9, .inl ⟨rfl, q9⟩⟩)
      | true =>
        simp only [if_true] at q9
        obtain ⟨m', hm, w'⟩ := hNx H9 q9
        obtain ⟨n, rfl⟩ : ∃ k, n = k + 1 := ⟨n - 1, by omega⟩
        refine seg_at (seg_yield rfl rfl rfl ⟨true, rfl, _, _, _, I9, .inr ⟨rfl, fun s'' ho hh hg => ?_⟩⟩)
        have I10 := inv_gens I9 ho hh hg
        have pin' : ∀ b ∈ fp, ∀ o, s7.heap.get? b = some o → s''.heap.get? b = some o ∧ H9 b = none := fun b hb o e =>
          let z := I10.pin (b, o) (List.mem_append_right _ (List.mem_append_right _ (mem_pinsAt hb e)))
          ⟨z.1, z.2.1⟩
        have hl : σ0.length = σ8.length := by rw [← hw8, L2.wipe_length]
        refine seg_again rfl (ih m' hm (i + 1) n s'' s'' H9 w' (by omega) ((I10.unpinned (pins := [])).weak hl (fun j v e => ?_)) (T.keep _ _ _ st7 fun b hb o e => (pin' b hb o e).1) fun b hb => ?_)
        · rw [← hw8] at e
          exact (wipe_some e).1
        · obtain ⟨o, e, _⟩ := T.obj _ _ st7 b hb
          exact (pin' b hb o e).2

/-- all's loop -/
theorem all_drain {A : Around} {R : Result → Shared → Prop} {a : Addr} {gi : Nat} (hh : A.handled = none) (hd : A.depth < recursionLimit)
    (hgen : ∀ pins σ H s, Inv XG pins σ H s → s.heap.IsGen a gi)
    (hend : ∀ b pins σ H s s', Inv XG pins σ H s → Q (.bl b) H → s'.os = s.os → (∀ c o, s.heap.get? c = some o → s'.heap.get? c = some o) → AllBare s'.gens → R (.ok (.ret (.bool b))) s') :
    ∀ (n : Nat) (s : Shared), s.heap.IsGen a gi → s.heap.NoLimit →
      (∃ gs, s.gens[gi]? = some gs ∧ gs.Goes (model XG.prog XG.w) A.in1.in1 (GEnd XG Q) (GOut XG Q) n (.send .none) (s.setGen gi .running)) →
      codeAny (model XG.prog XG.w) A (.builtin "all.loop" ⟨[.ref a], []⟩) R s := by
  have goes : ∀ {gs : GenState} {B : Around} {n : Nat} {r : Resume} {s : Shared}, gs.Goes (model XG.prog XG.w) B (GEnd XG Q) (GOut XG Q) n r s →
      gs.Goes (model XG.prog XG.w) B (fun n s₀ r s1 => ((r = .ok (.ret .none) ∨ r = .ok .next) ∧ (∃ pins σ H, Inv XG pins σ H s1 ∧ Q (.bl true) H)) ∨ ∃ e, r = .error e ∧ False) (GOut XG Q) n r s := fun h => h
  have bt : ∀ {b : Bool} {s : Shared} {K : Bool → Shared → Prop} {E : Value → Shared → Prop}, K b s → wpAny (model XG.prog XG.w) A.in1 (truthy (.bool b)) K E s := fun h => wpAny_truthy_bool h
  intro n
  induction n with
  | zero =>
    intro s hg hl ⟨gs, hgs, hgo⟩
    refine codeAny_builtin F.entry_all_loop ?_
    rw [Around.under_plainId F.plain_all_loop _]
    show wpAny _ A.in1 (pyNext (.ref a) >>= _) _ _ s
    refine wpAny_bind (next_genG (Er := fun _ _ => False) (A := A.in1) hh hl hd hg hgs (goes hgo) (fun v s₁ gs' hbare hv => ?_) (fun s₁ hp h' hk => ?_) fun e s₁ he => he.elim)
    · obtain ⟨b, rfl, pins, σ, H, I, hv⟩ := hv
      rcases hv with ⟨rfl, q⟩ | ⟨rfl, q⟩
      · refine wpAny_bind (wpAny_holding (bt ?_))
        refine wpAny_bind (wpAny_letGo ?_)
        simp only [Bool.false_eq_true, if_false]
        refine wpAny_bind (wpAny_rule (wpAny_pure ?_))
        exact hend false pins σ H s₁ _ I q rfl (fun _ _ e => e) (allBare_setGen I.bare hbare)
      · exact False.elim (q s₁ rfl rfl I.bare)
    · obtain ⟨pins, σ, H, I, q⟩ := hp
      refine wpAny_bind (wpAny_rule (wpAny_pure ?_))
      exact hend true pins σ H s₁ _ I q rfl hk (allBare_setGen I.bare rfl)
  | succ n ih =>
    intro s hg hl ⟨gs, hgs, hgo⟩
    have hgl : gi < s.gens.size := (Array.getElem?_eq_some_iff.mp hgs).1
    refine codeAny_builtin F.entry_all_loop ?_
    rw [Around.under_plainId F.plain_all_loop _]
    show wpAny _ A.in1 (pyNext (.ref a) >>= _) _ _ s
    refine wpAny_bind (wpAny_gsz (n := gi + 1) hgl (next_genG (Er := fun _ _ => False) (A := A.in1) hh hl hd hg hgs (goes hgo) (fun v s₁ gs' hbare hv => ?_) (fun s₁ hp h' hk => ?_) fun e s₁ he => he.elim))
    · intro hsz
      obtain ⟨b, rfl, pins, σ, H, I, hv⟩ := hv
      refine wpAny_bind (wpAny_holding (bt ?_))
      refine wpAny_bind (wpAny_letGo ?_)
      rcases hv with ⟨rfl, q⟩ | ⟨rfl, q⟩
      · simp only [Bool.false_eq_true, if_false]
        refine wpAny_bind (wpAny_rule (wpAny_pure ?_))
        exact hend false pins σ H s₁ _ I q rfl (fun _ _ e => e) (allBare_setGen I.bare hbare)
      · simp only [if_true]
        have hsz1 : gi < s₁.gens.size := by
          have q : (s₁.setGen gi gs').gens.size = s₁.gens.size := setGen_size _ _ _
          have hsz' : gi + 1 ≤ (s₁.setGen gi gs').gens.size := hsz
          omega
        refine wpAny_pure ⟨plainId_quiet F.plain_all_loop _, ih (s₁.setGen gi gs') (hgen pins σ H s₁ I) I.nolimit ⟨gs', setGen_at hsz1, ?_⟩⟩
        exact q _ rfl rfl (allBare_setGen (s := s₁.setGen gi gs') (allBare_setGen I.bare hbare) rfl)
    · intro hsz
      obtain ⟨pins, σ, H, I, q⟩ := hp
      refine wpAny_bind (wpAny_rule (wpAny_pure ?_))
      exact hend true pins σ H s₁ _ I q rfl hk (allBare_setGen I.bare rfl)
end

section
variable {X : Cx} {pins : List (Addr × Obj)} {σ : L2.St} {H : Hp} {s s5 : Shared} {A' : Around} {scope : Scope} {own : List (Str × Nat)} {fp : List Addr} {code : Value} {a : Addr} {go : Obj} {m0 : Str → Option Value}
abbrev gEnv (X : Cx) (scope : Scope) (C : Addr) (code : Value) : PySem.Env := genEnv scope (cloFrom X.env.cells scope.names []) C code builtinsNs X.env
theorem inv_gen (I : Inv X pins σ H s) (ok : BlkOk X.N X.env.scope scope own) (hN : X.N.Nodup) (hfp : ∀ b ∈ fp, FpOk X pins H b ∧ b < s.heap.objs.size) (hcell : ∀ y ∈ scope.names, y.2 ≠ .cell) (hd : A'.handled = none)
    (hfr : A'.frames = some (gEnv X scope s.heap.objs.size code :: X.stack)) (hos : s5.os = s.os) (hb : AllBare s5.gens) (kp : ∀ b o, s.heap.get? b = some o → s5.heap.get? b = some o) (ns : s5.heap.Ns s.heap.objs.size m0)
    (ha : s5.heap.get? a = some go) (haC : s.heap.objs.size < a) (hgo : ∀ v, go.data ≠ .cell v) :
    Inv (gcx X A' s H (gEnv X scope s.heap.objs.size code) fp [(a, go)]) [] (L2.wipe σ (own.map (·.2))) H s5 := by
  have hfree : ∀ y ∈ scope.names, y.2 = .free → ∃ c, X.env.cells.lookup y.1 = some c := fun y hy e => by
    rcases ok.free y hy e with k | k
    · exact I.ok.has _ (.inl k)
    · exact I.ok.has _ (.inr k)
  generalize hcenv : gEnv X scope s.heap.objs.size code = cenv at hfr ⊢
  have hL : cenv.locals = s.heap.objs.size := by rw [← hcenv]; rfl
  have hcl : cenv.cells = cloFrom X.env.cells scope.names [] := by rw [← hcenv]; rfl
  have hsc : cenv.scope = scope := by rw [← hcenv]; rfl
  have hF : cenv.frame = some s.heap.objs.size := by rw [← hcenv]; rfl
  have cm : ∀ {y c}, (y, c) ∈ cloFrom X.env.cells scope.names [] → X.env.cells.lookup y = some c ∧ c < s.heap.objs.size := fun {y c} hm => by
    rcases cloFrom_mem hm with hm | ⟨h1, rfl⟩
    · cases hm
    · obtain ⟨c, hc⟩ := hfree _ h1 rfl
      rw [hc]
      obtain ⟨w, z⟩ := I.cell _ _ hc
      exact ⟨rfl, z.lt⟩
  have mem : ∀ {y c}, cenv.cells.lookup y = some c → X.env.cells.lookup y = some c ∧ c < s.heap.objs.size := fun {y c} e => by
    rw [hcl] at e
    exact cm (PySem.mem_of_lookup e)
  have look : ∀ {y}, scope.names.lookup y = some .free → ∃ c, cenv.cells.lookup y = some c ∧ X.env.cells.lookup y = some c := fun {y} hl => by
    have hy : (y, NameKind.free) ∈ scope.names := PySem.mem_of_lookup hl
    obtain ⟨c', e'⟩ := mem_lookup (cloFrom_has (cells := X.env.cells) (acc := []) hy)
    rw [← hcl] at e'
    exact ⟨c', e', (mem e').1⟩
  have ncell : ∀ {y}, scope.names.lookup y ≠ some .cell := fun {y} e => hcell (y, .cell) (PySem.mem_of_lookup e) rfl
  have okG : (gcx X A' s H cenv fp [(a, go)]).Ok := by
    refine ⟨I.ok.mod, by show cenv.scope.kind = _; rw [hsc]; exact ok.kind, by show cenv.globals = _; rw [← hcenv]; exact I.ok.glob, by show cenv.builtins = _; rw [← hcenv] <;> rfl, by show s.heap.objs.size ≤ cenv.locals; rw [hL]; exact Nat.le_refl _,
      fun y z c e1 e2 => I.ok.inj y z c (mem e1).1 (mem e2).1, fun y hy => ?_, fun y c z e => absurd z Bool.false_ne_true, fun _ => hd, hfr, .inr ⟨rfl, by show cenv.frame = some cenv.locals; rw [hF, hL]⟩, fun b hb => ⟨?_, fun y c e z => ?_⟩, I.bs, Nat.le_trans I.ok.bsz I.sz, fun b o e hb => ?_, fun b hb z => ?_, I.stack, I.stkFree⟩
    · have hy : scope.names.lookup y = some .cell ∨ scope.names.lookup y = some .free := by
        have : cenv.kindOf y = some .cell ∨ cenv.kindOf y = some .free := hy
        unfold Env.kindOf at this
        rw [hsc] at this
        exact this
      rcases hy with hy | hy
      · exact absurd hy ncell
      · obtain ⟨c, e, _⟩ := look hy
        exact ⟨c, e⟩
    · show b ≠ cenv.locals
      rw [hL]; exact Nat.ne_of_lt (hfp b hb).2
    · exact (hfp b hb).1.2.2.2.2.1 y c (mem e).1 z
    · rcases (hfp b hb).1.2.2.2.1 with z | z
      · exact I.ok.noex b o e z
      · exact absurd (Nat.lt_of_lt_of_le (Heap.lt_size e) (Nat.le_trans I.ok.bsz z)) (Nat.lt_irrefl _)
    · rcases List.mem_cons.mp (I.stkSub b z) with z | z
      · exact (hfp b hb).1.2.1 z
      · exact (hfp b hb).1.2.2.1 z
  refine ⟨okG, hos, hb, Un.kept kp, ⟨m0, by show s5.heap.Ns cenv.locals m0; rw [hL]; exact ns, fun i y av e1 e2 e3 => ?_⟩, fun y c e => ?_, ?_, fun y c e => ?_, fun p hp => ?_, I.hok.kept kp, by rw [L2.wipe_length]; exact I.len⟩
  · obtain ⟨e2, hne⟩ := wipe_some e2
    have e3 : Vis scope y := by
      have : Vis cenv.scope y := e3
      rw [hsc] at this
      exact this
    have no : ∀ k', scope.names.lookup y = some k' → ¬ (k' = .local ∨ k' = .cell) := fun k' e hh => by
      rcases ok.own _ (PySem.mem_of_lookup e) hh with e' | e'
      · obtain ⟨p, hp, hpy⟩ := List.mem_map.mp e'
        have e3 := ok.ix p hp
        have : p.1 = y := hpy
        rw [this] at e3
        exact hne (List.mem_map.mpr ⟨p, hp, nodup_ix hN e3 e1⟩)
      · exact e' (List.mem_of_getElem? e1)
    have hfr : scope.names.lookup y = some .free := by
      rcases e3 with e3 | e3 | e3
      · exact absurd (.inl rfl) (no _ e3)
      · exact absurd (.inr rfl) (no _ e3)
      · exact e3
    obtain ⟨m, hn, hl⟩ := I.loc
    have hvis : Vis X.env.scope y := (ok.free _ (PySem.mem_of_lookup hfr) rfl).elim (fun k => .inr (.inl k)) (fun k => .inr (.inr k))
    obtain ⟨w, r, q⟩ := hl i y av e1 e2 hvis
    refine ⟨w, r, .inr ⟨.inr ?_, ?_⟩⟩
    · show cenv.kindOf y = _
      unfold Env.kindOf
      rw [hsc]
      exact hfr
    obtain ⟨c, h1, h2⟩ := look hfr
    rcases q with ⟨k, _⟩ | ⟨_, c', e', z⟩
    · have k : X.env.scope.names.lookup y = some .local := k
      rcases ok.free _ (PySem.mem_of_lookup hfr) rfl with k' | k' <;> rw [show X.env.scope.names.lookup y = _ from k'] at k <;> cases k
    · rw [h2] at e'; cases e'
      exact ⟨c, h1, z.keeps kp⟩
  · obtain ⟨w, z⟩ := I.cell y c (mem e).1
    exact ⟨w, z.keeps kp⟩
  · show H cenv.locals = none
    rw [hL]; exact I.hok.fresh (Nat.le_refl _)
  · exact I.freeC y c (mem e).1
  · have hp : p = (a, go) := by
      rcases List.mem_append.mp (show p ∈ [(a, go)] ++ [] from hp) with z | z
      · exact List.mem_singleton.mp z
      · cases z
    subst hp
    refine ⟨ha, I.hok.fresh (Nat.le_of_lt haC), ?_, fun z => ?_, hgo⟩
    · show a ≠ cenv.locals
      rw [hL]; exact Nat.ne_of_gt haC
    · rcases List.mem_cons.mp (I.stkSub a z) with z | z
      · have := I.lt
        rw [← z] at this
        exact absurd (Nat.lt_trans this haC) (Nat.lt_irrefl _)
      · exact I.nofs (Nat.le_of_lt haC) z
end

section
variable {X : Cx} {elt iter tg : Expr} {scope : Scope} {own : List (Str × Nat)} {wi : TI} {g : TG} {te : TE} {k : Nat} {c P : Addr} {p pos gpos : Pos}
/-- all(test for target in iter): W by the turn and a measure; the def's table may have grown -/
def tAll (P : Addr) (wi : TI) (g : TG) (te : TE) (vs : List Nat) : TE := fun σ H Q => wi σ H fun J H1 => GxR.TabG H1 P ∧ ∀ H2, GxR.Tabbed P H1 H2 → ∃ W : Nat → Nat → Hp → Prop, (∃ m, W 0 m H2) ∧ ∀ i n H, W i n H →
  (J.stop i H ∧ Q (.bl true) H) ∨ (J.go i H ∧ ∃ Nx : Hp → Prop, (∀ H', Nx H' → ∃ n', n' < n ∧ W (i + 1) n' H') ∧ ∀ x H', J.yld i H x H' → g x (L2.wipe σ vs) H' fun σ2 H2 => L2.wipe σ2 vs = L2.wipe σ vs ∧ te σ2 H2 fun y H3 => ∃ b, y = .bl b ∧ (if b = true then Nx H3 else Q (.bl false) H3))
theorem frames_gen {A : Around} {env : PySem.Env} {it : Addr} {st : List PySem.Env} (h : A.frames = some st) : (A.in1.in1.over (genC elt tg iter scope gpos it env) []).frames = some (env :: st) := by
  show pushEnvs [env] (pushEnvs [] A.frames) = _
  rw [h] <;> rfl
theorem room_gen {A : Around} {env : PySem.Env} {it : Addr} (h : Room (k + 1) A) : Room k (A.in1.in1.over (genC elt tg iter scope gpos it env) []) := by
  refine ⟨h.hd, ?_, ?_⟩
  · have := h.dp
    show A.depth + 0 + 1 + 3 * k + 5 < _
    omega
  · have := h.un
    show A.units + 1 + 1 + 0 + 3 + 16 * k + 200 < _
    omega
theorem pe_allG (hr : Room (k + 1) X.A) (hg : Gl X "all") (hm : X.mg "all" = none) (TB : GxR.TabB X.base X.mg c P) (hcode : X.env.code = .ref c) (hc : X.calm = true) (hN : X.N.Nodup) (hi : PI X tg iter wi) (ok : BlkOk X.N X.env.scope scope own)
    (hco : scope.isCoroutine = false) (hcell : ∀ y ∈ scope.names, y.2 ≠ .cell) (h0 : scope.names.lookup (".0" : Str) = some NameKind.local)
    (hgt : ∀ (A' : Around) (s : Shared) (H : Hp) (C : Addr) (code : Value) (fp : List Addr) (pn : List (Addr × Obj)), Room k A' → PG (gcx X A' s H (gEnv X scope C code) fp pn) tg g)
    (he : ∀ (A' : Around) (s : Shared) (H : Hp) (C : Addr) (code : Value) (fp : List Addr) (pn : List (Addr × Obj)), Room k A' → PE (gcx X A' s H (gEnv X scope C code) fp pn) elt te)
    (hs : ∀ v, genFold iter X.env v = pure v) :
    PE X (.Call (.Name "all" p) [.GeneratorExp elt [⟨tg, iter, [], 0⟩] scope gpos] [] pos) (tAll P wi g te (own.map (·.2))) := by
  refine ⟨fun pins s σ H Q I h => ?_⟩
  have hst : starEach [.GeneratorExp elt [⟨tg, iter, [], 0⟩] scope gpos] X.env = (false, eval (.GeneratorExp elt [⟨tg, iter, [], 0⟩] scope gpos) X.env) :: starEach [] X.env := rfl
  refine wpAny_Call_Name_kw (ld_blt I hg hm (show bootBuiltins "all" = some (.builtin "all") by decide +kernel) ?_)
  refine PyProof.Rows.callWith_builtin1 ?_ hst (by rfl)
  rw [hst]
  show wpAny _ _ (spliced ((false, eval (.GeneratorExp elt [⟨tg, iter, [], 0⟩] scope gpos) X.env) :: backTo pos (starEach [] X.env))) _ _ s
  have hfree : ∀ y ∈ scope.names, y.2 = .free → ∃ c, X.env.cells.lookup y.1 = some c := fun y hy e => by
    rcases ok.free y hy e with k | k
    · exact I.ok.has _ (.inl k)
    · exact I.ok.has _ (.inr k)
  refine Calls.spliced_cons (wpAny_GeneratorExp_make hco (closure_ok hfree) hcell h0 ok.kind (by have := hr.dp; omega) ?_ hs)
  refine thn (hi.run pins s σ H _ I h) fun xv s1 h1 => thn h1 fun itv s2 h2 => ?_
  obtain ⟨it, fp, tn, J, H2, rfl, I2, T, st2, f2, ⟨ps, hP, ht⟩, q⟩ := h2
  refine ⟨I2.nolimit, ?_⟩
  have hPs : s2.heap.get? P = some { cls := .none, data := .fields ps } := I2.hok P _ hP
  have cd : PySem.W.CodeHd s2.heap c P := TB.code.keeps fun b u e => I2.bk b u e
  have cont : ∀ (code : Value) (h3 : Heap) (tk : Nat) (more : Array Value), Heap.ExtBut P s2.heap h3 → s2.heap.objs.size ≤ h3.objs.size → h3.get? P = some { cls := .none, data := .fields (ps ++ more) } → TriplesOk (ps ++ more).toList →
      wpAny (model X.prog X.w) X.A (builtinsFor X.env.globals X.env.builtins) (fun bi s₄ =>
        ∀ h', h'.Ns s₄.heap.objs.size (fun y => if y = ".0" then some (.ref it) else none) → Heap.SameBut s₄.heap.objs.size (s₄.heap.push { cls := .type "frame", data := .dict #[] }) h' →
          wpAny (model X.prog X.w) X.A (spliced (backTo pos (starEach [] X.env))) (fun us s' => wpAny (model X.prog X.w) X.A (call (.builtin "all") (Value.ref h'.objs.size :: us)) (EP X pins σ Q) X.xe s') X.xe { s₄ with
            gens := s₄.gens.push (.fresh (.compStart (.GeneratorExp elt [⟨tg, iter, [], 0⟩] scope gpos) 0 (.ref it) .none (genEnv scope (cloFrom X.env.cells scope.names []) s₄.heap.objs.size code bi X.env))),
            toks := s₄.toks + 1 + 1 + 1,
            heap := h'.push { cls := .type "generator", data := .fields #[.int s₄.gens.size 0, .str "<genexpr>" (s₄.toks + 1), .str (X.env.qual ++ "<genexpr>") (s₄.toks + 1 + 1)] } }) X.xe { s2 with heap := h3, toks := tk } := by
    intro code h3 tk more hx hsz hP3 ht3
    obtain ⟨bm, ob, e1, e2, e3, e4, e5, e6, e7, e8⟩ := TB.bm
    have keep3 : ∀ b u, b ≠ P → s2.heap.get? b = some u → h3.get? b = some u := fun b u hb e => hx b u hb e
    refine wpAny_builtinsFor (m := X.mg) (by rw [I2.ok.glob]; exact (I2.mod.glob.keeps I2.bk).extBut hx TB.gP) e1 e2 (keep3 _ _ e4 (I2.bk _ _ e5)) e6 e7 e8 ?_
    have I4 : Inv X pins σ (upd H2 P (.tbl (ps ++ more))) { s2 with heap := h3, toks := tk } := GxR.inv_tab (more := more) (g' := s2.gens) (d' := s2.drawn) (t' := tk) I2 hP keep3 hP3 I2.bare
    have nP : ∀ b ∈ fp, b ≠ P := fun b hb z => by
      have := (f2 b hb).1
      rw [z, hP] at this
      cases this
    have st4 : tn 0 h3 := T.keep _ _ _ st2 fun b hb o e => keep3 b o (nP b hb) e
    obtain ⟨W, ⟨m0, w0⟩, turn⟩ := q (upd H2 P (.tbl (ps ++ more))) ⟨⟨_, upd_same, ht3⟩, fun b hb => upd_ne hb⟩
    intro h' hns hsb
    generalize hs4 : ({ s2 with heap := h3, toks := tk } : Shared) = s4 at I4 hns hsb ⊢
    have eh : h3 = s4.heap := by rw [← hs4]
    rw [eh] at st4 hsz hP3
    have hsz' : h'.objs.size = s4.heap.objs.size + 1 := by rw [hsb.1, Heap.size_push]
    have keep' : ∀ b o, s4.heap.get? b = some o → h'.get? b = some o := fun b o e => hsb.extBut b o (Nat.ne_of_lt (Heap.lt_size e)) (Heap.get?_push_of_some _ e)
    generalize hgo : ({ cls := .type "generator", data := .fields #[.int s4.gens.size 0, .str "<genexpr>" (s4.toks + 1), .str (X.env.qual ++ "<genexpr>") (s4.toks + 1 + 1)] } : Obj) = go
    have keep5 : ∀ b o, s4.heap.get? b = some o → (h'.push go).get? b = some o := fun b o e => Heap.get?_push_of_some _ (keep' b o e)
    have hpushed : (h'.push go).get? h'.objs.size = some go := by
      rw [← hgo]
      exact Heap.get?_push_size _ rfl
    have hgen : ∀ hh : Heap, hh.get? h'.objs.size = some go → hh.IsGen h'.objs.size s4.gens.size := fun hh e => by
      rw [← hgo] at e
      exact ⟨_, _, _, e, rfl, rfl, rfl⟩
    have f4 : ∀ b ∈ fp, FpOk X pins (upd H2 P (.tbl (ps ++ more))) b ∧ b < s4.heap.objs.size := fun b hb => by
      obtain ⟨o, e, _⟩ := T.obj _ _ st4 b hb
      exact ⟨⟨by rw [upd_ne (nP b hb)]; exact (f2 b hb).1, (f2 b hb).2⟩, Heap.lt_size e⟩
    have n4 : ∀ b ∈ fp, (upd H2 P (.tbl (ps ++ more))) b = none := fun b hb => (f4 b hb).1.1
    generalize hH4 : upd H2 P (.tbl (ps ++ more)) = H4 at I4 w0 f4 n4
    refine Calls.spliced_nil ?_
    generalize hs5 : ({ s4 with gens := s4.gens.push (.fresh (.compStart (.GeneratorExp elt [⟨tg, iter, [], 0⟩] scope gpos) 0 (.ref it) .none (genEnv scope (cloFrom X.env.cells scope.names []) s4.heap.objs.size code builtinsNs X.env))), toks := s4.toks + 1 + 1 + 1, heap := h'.push go } : Shared) = s5
    have e5h : s5.heap = h'.push go := by rw [← hs5]
    have e5g : s5.gens = s4.gens.push (.fresh (.compStart (.GeneratorExp elt [⟨tg, iter, [], 0⟩] scope gpos) 0 (.ref it) .none (gEnv X scope s4.heap.objs.size code))) := by rw [← hs5]
    have e5o : s5.os = s4.os := by rw [← hs5]
    have hb5 : AllBare s5.gens := by rw [e5g]; exact AllBare.push I4.bare rfl
    have hfr := frames_gen (elt := elt) (tg := tg) (iter := iter) (scope := scope) (gpos := gpos) (it := it) (env := gEnv X scope s4.heap.objs.size code) I4.ok.frames
    have hrA := room_gen (elt := elt) (tg := tg) (iter := iter) (scope := scope) (gpos := gpos) (it := it) (env := gEnv X scope s4.heap.objs.size code) hr
    generalize hAA : X.A.in1.in1.over (genC elt tg iter scope gpos it (gEnv X scope s4.heap.objs.size code)) [] = AA at hfr hrA
    have J5 : Inv (gcx X AA s4 H4 (gEnv X scope s4.heap.objs.size code) fp [(h'.objs.size, go)]) [] (L2.wipe σ (own.map (·.2))) H4 s5 :=
      inv_gen I4 ok hN f4 hcell hrA.hd hfr e5o hb5 (by rw [e5h]; exact keep5) (by rw [e5h]; exact hns.push _) (by rw [e5h]; exact hpushed) (by rw [hsz']; exact Nat.lt_succ_self _) (fun v e => by rw [← hgo] at e; cases e)
    have gen_of : ∀ pins' σ' H' s', Inv (gcx X AA s4 H4 (gEnv X scope s4.heap.objs.size code) fp [(h'.objs.size, go)]) pins' σ' H' s' → s'.heap.IsGen h'.objs.size s4.gens.size := fun pins' σ' H' s' I' =>
      hgen _ (I'.pin (h'.objs.size, go) (List.mem_append_left _ (List.mem_singleton.mpr rfl))).1
    refine call_function_tree F.kind_all F.plain_all F.entry_all (F.args_all1 _) ?_
    unfold Builtin.«all»
    refine wpAny_bind (m := oneArg "all" _) (wpAny_pure ?_)
    refine wpAny_bind (wpAny_pyIter_gen (gen_of _ _ _ _ J5) ?_)
    refine wpAny_pure ⟨plainId_quiet F.plain_all_loop _, ?_⟩
    refine all_drain (XG := gcx X AA s4 H4 (gEnv X scope s4.heap.objs.size code) fp [(h'.objs.size, go)]) (Q := Q) (gi := s4.gens.size) hr.hd (by have := hr.dp; omega) gen_of (fun b pins' σ' H' s6 s7 I6 hq ho hk hbb => ?_) (m0 + 1) s5 (gen_of _ _ _ _ J5) J5.nolimit ⟨.fresh (.compStart (.GeneratorExp elt [⟨tg, iter, [], 0⟩] scope gpos) 0 (.ref it) .none (gEnv X scope s4.heap.objs.size code)), by rw [e5g]; exact Array.getElem?_push_size .., show _ ∧ _ from ⟨rfl, ?_⟩⟩
    · refine ⟨.bl b, H', ?_, rfl, hq⟩
      exact I4.call' (ch := fp) (ho.trans I6.os) (I6.base.trans (Un.kept hk)) (I6.hok.kept hk) hbb fun b hb => ⟨(f4 b hb).1.2.2.2.1, (f4 b hb).1.2.1, (f4 b hb).1.2.2.2.2.1, (f4 b hb).1.2.2.2.2.2⟩
    · have J6 := inv_gens (s'' := s5.setGen s4.gens.size .running) J5 rfl rfl (allBare_setGen J5.bare rfl)
      have stat : ∀ {σ' : L2.St} {H' : Hp} {s' : Shared}, Inv (gcx X AA s4 H4 (gEnv X scope s4.heap.objs.size code) fp [(h'.objs.size, go)]) [] σ' H' s' → (∀ b ∈ fp, H' b = none) → ∀ b ∈ fp, FpOk (gcx X AA s4 H4 (gEnv X scope s4.heap.objs.size code) fp [(h'.objs.size, go)]) [] H' b := fun {σ' H' s'} I' hn b hb =>
        ⟨hn b hb, (I'.ok.exf b hb).1, I'.ok.exfs b hb, .inl hb, fun x c e => (I'.ok.exf b hb).2 x c e, fun p hp => by
          rcases List.mem_append.mp (show p ∈ [(h'.objs.size, go)] ++ [] from hp) with z | z
          · rw [List.mem_singleton.mp z]
            have := (f4 b hb).2
            exact Nat.ne_of_gt (by rw [hsz']; exact Nat.lt_succ_of_lt this)
          · cases z⟩
      have st6 : tn 0 (s5.setGen s4.gens.size .running).heap := T.keep _ _ _ st4 fun b _ o e => by
        show s5.heap.get? b = some o
        rw [e5h]
        exact keep5 b o e
      have loop := gen_loop (XG := gcx X AA s4 H4 (gEnv X scope s4.heap.objs.size code) fp [(h'.objs.size, go)]) (A2 := X.A.in1.in1) (pos := gpos) (iter := iter) (scope := scope) (fp := fp) (tn := tn) (J := J) (W := W) (Q := Q) (vs := own.map (·.2)) (σ0 := L2.wipe σ (own.map (·.2)))
        hAA.symm hc rfl hco T (fun _ _ _ I' hn => stat I' hn) (hgt AA s4 H4 _ code fp _ hrA) (he AA s4 H4 _ code fp _ hrA) wipe_wipe turn m0 0 (m0 + 1) (s5.setGen s4.gens.size .running) (s5.setGen s4.gens.size .running) H4 w0 (Nat.lt_succ_self _) J6 st6 n4
      show Seg _ X.A.in1.in1 _ _ _ (s5.setGen s4.gens.size .running) _ ((compStart (.GeneratorExp elt [⟨tg, iter, [], 0⟩] scope gpos) 0 (.ref it) .none (gEnv X scope s4.heap.objs.size code)).onRaise (leaving (gEnv X scope s4.heap.objs.size code))) [] (s5.setGen s4.gens.size .running)
      unfold compStart
      rw [Sem.onRaise_eq_wrap]
      show Seg _ X.A.in1.in1 _ _ _ (s5.setGen s4.gens.size .running) _ ((ask >>= _).wrap _ _ _ _) [] (s5.setGen s4.gens.size .running)
      refine seg_bind_wrap (wpAny_askSetting ?_)
      split
      · exact seg_again rfl loop
      · first
          | exact seg_bind_wrap (wpAny_rule (seg_bind_wrap (wpAny_standAt (seg_bind_wrap (T.self _ 0 _ _ _ st6 (seg_again rfl loop))))))
          | (refine seg_bind_wrap (wpAny_rule ?_); show Seg _ _ _ _ _ _ _ ((standAt iter.pos >>= _).wrap _ _ _ _) [] _; exact seg_bind_wrap (wpAny_standAt (seg_bind_wrap (T.self _ 0 _ _ _ st6 (seg_again rfl loop)))))
  cases hf : codeAmong gpos ps.toList with
  | none =>
    refine wpAny_genexprCodeX hcode (cd.code hPs ht) (cd.tab hPs) hf fun c' h' tk hx hge hlt hco' _ htab' _ => ?_
    obtain ⟨o1, vs, f1, tf, fl, tg', inF, tx, tt, op, _, _, _, _, _, _, _, _, _, htr, _⟩ := hco'
    exact cont _ h' tk _ hx (Nat.le_trans hge (Nat.le_of_lt hlt)) htab'.2 htr
  | some cv =>
    refine wpAny_genexprCode_hit hcode (cd.code hPs ht) hf ?_
    exact cont cv s2.heap s2.toks #[] (Heap.ExtBut.refl _ _) (Nat.le_refl _) (by simpa using hPs) (by simpa using ht)
end
end TK
end
section
set_option autoImplicit false
set_option linter.all false
set_option maxRecDepth 100000
namespace TK
open PySem L2 PySem.Spec PyProof.Rows

section
variable {X : Cx} {T : Tb} {W : WX} {elt iter tg : Expr} {tg' : Tg} {fi : TDi} {fe : Vs → Sx → TK.R D} {vs : List Nat} {P : Addr}
theorem later_tab {H H2 : Hp} {m : List Addr} (t : GxR.TabG H P) (h : GxR.Tabbed P H H2) : Later H H2 m m := by
  obtain ⟨ps, e, _⟩ := t
  obtain ⟨⟨qs, e2, _⟩, h⟩ := h
  refine ⟨⟨[], by simp, by simp⟩, fun a o ha _ nt => ?_, fun a rs ha _ => ?_⟩
  · rw [h a fun z => by rw [z, e] at ha; exact nt ps (Option.some.inj ha).symm]
    exact ha
  · by_cases z : a = P
    · exact ⟨qs, z ▸ e2⟩
    · exact ⟨rs, by rw [h a z]; exact ha⟩
theorem RelH.tabbed {H H2 : Hp} {m : List Addr} {S : Sx} (R : RelH T H m S) (hP : P ∈ T.tabs) (h : GxR.Tabbed P H H2) : RelH T H2 m S := by
  have L := later_tab (m := m) (R.tab P hP).2 h
  refine ⟨R.len, R.nd, fun a ha => ⟨(R.hid a ha).1, ?_⟩, fun P' hP' => ⟨(R.tab P' hP').1, ?_⟩, fun n a o h1 h2 => (R.obj n a o h1 h2).mono L (h.2 a fun z => (R.tab P hP).1 (by rw [← z]; exact List.mem_of_getElem? h1))⟩
  · by_cases z : a = P
    · obtain ⟨qs, e, _⟩ := h.1
      exact ⟨_, z ▸ e⟩
    · rw [h.2 a z]
      exact (R.hid a ha).2
  · by_cases z : P' = P
    · rw [z]; exact h.1
    · obtain ⟨ps, e, r⟩ := (R.tab P' hP').2
      exact ⟨ps, by rw [h.2 P' z]; exact e, r⟩
theorem rd_all {σ : L2.St} {H : Hp} {Q : VK} (hP : P ∈ T.tabs) (hv : ∀ i ∈ tg'.slots, i ∈ vs) (h : rdE T W (fun s S => (fi s S).bind fun xs S => (allL tg' fe xs.2 (wipeV s vs) xs.1 S).nox.bind fun b S => .ok (.bl b) S) σ H Q) :
    tAll P (rdI T W fi) (rdG T tg') (rdE T noW fe) vs σ H Q := by
  obtain ⟨s, S, m, hs, hS, h⟩ := h
  refine ⟨s, S, m, hs, hS, h.bind.mono fun q S1 H1 m1 L1 R1 g J w => ?_⟩
  obtain ⟨b0, Sb, eb, g⟩ := nox_ok g
  refine ⟨(R1.tab P hP).2, fun H2 ht => ?_⟩
  have La := later_tab (m := m1) (R1.tab P hP).2 ht
  have R2 := R1.tabbed hP ht
  have hs2 := (hs.mono L1).mono La
  refine ⟨fun i n H => n = q.1.length - i ∧ i ≤ q.1.length ∧ ∃ m S, Later H1 H m1 m ∧ RelH T H m S ∧ RelV T H m (wipeV s vs) (L2.wipe σ vs) ∧ allL tg' fe q.2 (wipeV s vs) (q.1.drop i) S = .ok b0 Sb, ⟨q.1.length, by simp, Nat.zero_le _, m1, S1, La, R2, hs2.wipe vs, by simpa using eb⟩, ?_⟩
  rintro i n H ⟨rfl, hi, m, S, L, R, rv, el⟩
  have hst : q.2 S = true := by
    cases hx : q.1.drop i with
    | nil =>
      rw [hx] at el
      unfold allL at el
      split at el
      · assumption
      · cases el
    | cons d ds =>
      rw [hx] at el
      unfold allL at el
      split at el
      · assumption
      · cases el
  obtain ⟨w1, w2, w3⟩ := w [] (by simp) H m S L R hst
  by_cases hlt : i < q.1.length
  · refine .inr ⟨w1 i hlt, _, fun H' z => ⟨q.1.length - (i + 1), by omega, z⟩, fun x H' y => ?_⟩
    obtain ⟨d, e1, rd, R', L'⟩ := w3 i x H' hlt y
    have hdr : q.1.drop i = d :: q.1.drop (i + 1) := by
      rw [List.drop_eq_getElem_cons hlt]
      congr 1
      exact Option.some.inj ((List.getElem?_eq_getElem hlt).symm.trans e1)
    rw [hdr] at el
    unfold allL at el
    rw [if_pos hst] at el
    split at el
    · rename_i s1 es1
      refine ⟨d, _, s1, m, rd, rv.mono L', es1, fun σ2 r2 o2 => ⟨?_, ?_⟩⟩
      · rw [o2.wipe hv, wipe_wipe]
      · obtain ⟨y, S2, ey, el⟩ := bind_nox el
        refine ⟨s1, S, m, r2, R', ?_⟩
        rw [ey]
        intro H3 m3 L3 R3 v rv3
        have rs3 := rv.mono (L'.trans L3)
        have L13 := L.trans (L'.trans L3)
        split at el
        · rename_i b
          refine ⟨b, rv3, ?_⟩
          cases b with
          | true =>
            simp only [if_true] at el ⊢
            exact ⟨by first | rfl | trivial, hlt, m3, S2, L13, R3, rs3, el⟩
          | false =>
            simp only [Bool.false_eq_true, if_false] at el ⊢
            cases el
            exact g H3 m3 L13 R3 _ rfl
        · cases el
    · cases el
  · have e : i = q.1.length := by omega
    subst e
    refine .inl ⟨w2, ?_⟩
    rw [List.drop_length] at el
    unfold allL at el
    rw [if_pos hst] at el
    cases el
    exact g H m L R _ rfl
theorem s_all {scope : Scope} {own : List (Str × Nat)} {k : Nat} {c : Addr} {p pos gpos : Pos} (hP : P ∈ T.tabs) (hv : ∀ i ∈ tg'.slots, i ∈ own.map (·.2)) (hr : Room (k + 1) X.A) (hg : Gl X "all") (hm : X.mg "all" = none) (TB : GxR.TabB X.base X.mg c P) (hcode : X.env.code = .ref c) (hc : X.calm = true) (hN : X.N.Nodup)
    (hi : PI X tg iter (rdI T W fi)) (ok : BlkOk X.N X.env.scope scope own) (hco : scope.isCoroutine = false) (hcell : ∀ y ∈ scope.names, y.2 ≠ .cell) (h0 : scope.names.lookup (".0" : Str) = some NameKind.local)
    (hgt : ∀ (A' : Around) (s : Shared) (H : Hp) (C : Addr) (code : Value) (fp : List Addr) (pn : List (Addr × Obj)), Room k A' → PG (gcx X A' s H (gEnv X scope C code) fp pn) tg (rdG T tg'))
    (he : ∀ (A' : Around) (s : Shared) (H : Hp) (C : Addr) (code : Value) (fp : List Addr) (pn : List (Addr × Obj)), Room k A' → PE (gcx X A' s H (gEnv X scope C code) fp pn) elt (rdE T noW fe))
    (hs : ∀ v, genFold iter X.env v = pure v) :
    PE X (.Call (.Name "all" p) [.GeneratorExp elt [⟨tg, iter, [], 0⟩] scope gpos] [] pos) (rdE T W fun s S => (fi s S).bind fun xs S => (allL tg' fe xs.2 (wipeV s (own.map (·.2))) xs.1 S).nox.bind fun b S => .ok (.bl b) S) :=
  PE_imp (pe_allG hr hg hm TB hcode hc hN hi ok hco hcell h0 hgt he hs) fun σ H Q h => rd_all hP hv h
end
end TK
end
section
set_option autoImplicit false
set_option linter.all false
set_option maxRecDepth 100000
namespace TK
open PySem L2 PySem.Spec PyProof.Rows

def PF (T : Tb) (D : Ends) : Fl → Sx → Hp → List Addr → Prop := fun f _ H m => match f with
  | .nx s => ∀ σ, RelV T H m s σ → D.nx σ H
  | .rt d => ∀ v, RepV T H m d v → D.rt v H
  | .bk s => ∀ σ, RelV T H m s σ → D.bk σ H
  | .ct s => ∀ σ, RelV T H m s σ → D.ct σ H
/-- a statement's reading (the exception's wish does not lean on the names) -/
def rdS (T : Tb) (W : WX) (f : Vs → Sx → TK.R Fl) : TS := fun D σ H => ∃ s S m, RelV T H m s σ ∧ RelH T H m S ∧ Ok T (fun c d H' => W c d [] H') H m (PF T D) (f s S)
section
variable {X : Cx} {T : Tb} {W : WX} {a b c o i e : Expr} {as : List Expr} {fa fb fc fe : Vs → Sx → TK.R D} {fs : Vs → Sx → TK.R (List D)} {ft : Vs → Sx → TK.R Bool} {f1 f2 : Vs → Sx → TK.R Fl} {pos apos p : Pos} {st : Stmt} {sts sts2 : List Stmt} {fi : TDi} {tg : Expr} {tg' : Tg}
theorem PS_imp {t t' : TS} (h : PS X st t) (w : ∀ D σ H, t' D σ H → t D σ H) : PS X st t' := ⟨fun pins s σ H D I q => h.run pins s σ H D I (w D σ H q)⟩
theorem PSs_imp {t t' : TS} (h : PSs X sts t) (w : ∀ D σ H, t' D σ H → t D σ H) : PSs X sts t' := ⟨fun pins s σ H D I q => h.run pins s σ H D I (w D σ H q)⟩
/-- the wish at any names -/
theorem Ok.names {a : Type} (hw : Flat W) {σ : L2.St} {H : Hp} {m : List Addr} {P : a → Sx → Hp → List Addr → Prop} : ∀ {r : TK.R a}, Ok T (fun c d H' => W c d [] H') H m P r → Ok T (fun c d H' => W c d σ H') H m P r
  | .ok d S', h => h
  | .exc c e S', h => fun H' m' x dd L R r k => hw _ _ [] σ _ (h H' m' x dd L R r k)
  | .bad, h => h
theorem st_never : PS X st (rdS T W fun _ _ => .bad) := ⟨fun _ _ _ _ _ _ ⟨s, S, m, _, _, q⟩ => q.elim⟩
theorem st_nil : PSs X [] (rdS T W fun s S => .ok (.nx s) S) := PSs_imp pss_nil fun D σ H ⟨s, S, m, hs, hS, h⟩ => h H m .refl hS σ hs
def seqF (f : Fl) (g : Vs → TK.R Fl) (S : Sx) : TK.R Fl := match f with
  | .nx s => g s
  | f => .ok f S
theorem st_cons (h1 : PS X st (rdS T W f1)) (h2 : PSs X sts (rdS T W f2)) : PSs X (st :: sts) (rdS T W fun s S => (f1 s S).bind fun f S => (match f with | .nx s' => f2 s' S | f => .ok f S)) :=
  PSs_imp (pss_cons h1 h2) fun D σ H ⟨s, S, m, hs, hS, h⟩ => ⟨s, S, m, hs, hS, h.bind.mono fun f S1 H1 m1 L1 R1 q => by
    cases f with
    | nx s' => exact fun σ' hs' => ⟨s', S1, m1, hs', R1, q⟩
    | rt d => exact fun v rv => q H1 m1 .refl R1 v rv
    | bk s' => exact fun σ' hs' => q H1 m1 .refl R1 σ' hs'
    | ct s' => exact fun σ' hs' => q H1 m1 .refl R1 σ' hs'⟩
theorem st_if (hw : Flat W) (hc : PT X c (rdT T W ft)) (ha : PSs X sts (rdS T W f1)) (hb : PSs X sts2 (rdS T W f2)) : PS X (.If c sts sts2 pos) (rdS T W fun s S => (ft s S).bind fun k S => if k = true then f1 s S else f2 s S) :=
  PS_imp (ps_if hc ha hb) fun D σ H ⟨s, S, m, hs, hS, h⟩ => ⟨s, S, m, hs, hS, (h.bind.names hw).mono fun k S1 H1 m1 L1 R1 q => by
    cases k with
    | true => exact ⟨s, S1, m1, hs.mono L1, R1, q⟩
    | false => exact ⟨s, S1, m1, hs.mono L1, R1, q⟩⟩
theorem st_pass : PS X (.Pass pos) (rdS T W fun s S => .ok (.nx s) S) := PS_imp ps_pass fun D σ H ⟨s, S, m, hs, hS, h⟩ => h H m .refl hS σ hs
theorem st_brk : PS X (.Break pos) (rdS T W fun s S => .ok (.bk s) S) := PS_imp ps_break fun D σ H ⟨s, S, m, hs, hS, h⟩ => h H m .refl hS σ hs
theorem st_ret (hw : Flat W) (ha : PE X a (rdE T W fa)) : PS X (.Return (some a) pos) (rdS T W fun s S => (fa s S).bind fun d S => .ok (.rt d) S) :=
  PS_imp (ps_ret ha) fun D σ H ⟨s, S, m, hs, hS, h⟩ => ⟨s, S, m, hs, hS, (h.bind.names hw).mono fun d S1 H1 m1 L1 R1 q v rv => q H1 m1 .refl R1 v rv⟩
theorem st_retN : PS X (.Return none pos) (rdS T W fun _ S => .ok (.rt .non) S) := PS_imp ps_retN fun D σ H ⟨s, S, m, hs, hS, h⟩ => h H m .refl hS _ rfl
theorem st_ex (hw : Flat W) (ha : PE X a (rdE T W fa)) (hsw : swapsWith a none pos.line X.env = pure false) : PS X (.Expr a pos) (rdS T W fun s S => (fa s S).bind fun _ S => .ok (.nx s) S) :=
  PS_imp (ps_expr ha hsw) fun D σ H ⟨s, S, m, hs, hS, h⟩ => ⟨s, S, m, hs, hS, (h.bind.names hw).mono fun d S1 H1 m1 L1 R1 q v rv => q H1 m1 .refl R1 σ (hs.mono L1)⟩
/-! ### stores -/
theorem st_set {k : Nat} {x : Str} (hw : Flat W) (hN : X.N.Nodup) (hi : X.N[k]? = some x) (hx : Loc X.env.scope x) (hf : X.fn x = true ∨ X.env.scope.names.lookup x = some .local) (ha : PE X a (rdE T W fa)) (hsw : swapsWith a (some (.Name x p)) pos.line X.env = pure false) :
    PS X (.Assign [.Name x p] a pos) (rdS T W fun s S => (fa s S).bind fun d S => .ok (.nx (s.set k (some d))) S) :=
  PS_imp (ps_set hN hi hx ha hsw hf) fun D σ H ⟨s, S, m, hs, hS, h⟩ => ⟨s, S, m, hs, hS, (h.bind.names hw).mono fun d S1 H1 m1 L1 R1 q v rv => q H1 m1 .refl R1 _ ((hs.mono L1).set k rv)⟩
theorem st_unp (hw : Flat W) (hg : PG X tg (rdG T tg')) (ha : PE X a (rdE T W fa)) (hs : swapsWithSole [tg] a pos.line X.env = pure false) (hw2 : swappedStores [tg] a X.env = pure none) (h1 : (assignEach [tg] X.env).map (·.2) = [assign tg X.env]) :
    PS X (.Assign [tg] a pos) (rdS T W fun s S => (fa s S).bind fun d S => (lift (asg tg' d s) S).bind fun s' S => .ok (.nx s') S) :=
  PS_imp (ps_asg ha hg hs hw2 h1) fun D σ H ⟨s, S, m, hs, hS, h⟩ => ⟨s, S, m, hs, hS, (h.bind.names hw).mono fun d S1 H1 m1 L1 R1 q v rv => by
    obtain ⟨s', es, q1⟩ := lift_ok q.bind
    have q2 := q1 H1 m1 .refl R1
    exact ⟨d, s, s', m1, rv, hs.mono L1, es, fun σ' hs' _ => q2 H1 m1 .refl R1 σ' hs'⟩⟩
theorem setD_own {x y d : D} {S S' : Sx} (h : setD x y d S = some S') : ∃ n i xs j, x = .obj n ∧ y = .int i ∧ S[n]? = some (.lst xs) ∧ ixN xs.length i = some j ∧ S' = S.set n (.lst (xs.set j d)) := by
  unfold setD at h
  split at h
  · rename_i n i
    split at h
    · rename_i xs e
      obtain ⟨j, e2, e3⟩ := Option.map_eq_some_iff.mp h
      exact ⟨n, i, xs, j, rfl, rfl, e, e2, e3.symm⟩
    · cases h
  · cases h
def notSlice : Expr → Bool
  | .Slice _ _ _ _ => false
  | _ => true
theorem assign_sub {env : PySem.Env} (hsl : notSlice i = true) (v : Value) : assign (.Subscript o i p) env v = (do
      let ov ← holding [v] (eval o env)
      let iv ← holding [v, ov] (eval i env)
      standAt p
      holding [v, ov, iv] (setItem ov iv v)
      release [v, ov, iv] []) := by
  cases i <;> first | rfl | cases hsl
theorem st_seti (hw : Flat W) (hsl : notSlice i = true) (ha : PE X a (rdE T W fa)) (ho : PE X o (rdE T W fb)) (hi : PE X i (rdE T W fc)) (hs : swapsWithSole [.Subscript o i p] a pos.line X.env = pure false) :
    PS X (.Assign [.Subscript o i p] a pos) (rdS T W fun s S => (fa s S).bind fun d S => (fb s S).bind fun x S => (fc s S).bind fun y S => (match setD x y d S with | some S' => .ok (.nx s) S' | none => .bad)) :=
  PS_imp (ps_asg ha (pg_sub ho hi set_list (assign_sub hsl)) hs rfl rfl) fun D σ H ⟨s, S, m, hs, hS, h⟩ => ⟨s, S, m, hs, hS, (h.bind.names hw).mono fun d S1 H1 m1 L1 R1 q v rv => by
    refine ⟨s, S1, m1, hs.mono L1, R1, (q.bind.names hw).mono fun x S2 H2 m2 L2 R2 q2 u ru => ?_⟩
    refine ⟨s, S2, m2, (hs.mono L1).mono L2, R2, (q2.bind.names hw).mono fun y S3 H3 m3 L3 R3 q3 w rw' => ?_⟩
    split at q3
    · rename_i S' e
      obtain ⟨n, j, xs, k, rfl, rfl, e1, e2, rfl⟩ := setD_own e
      obtain ⟨a, vs, rfl, hm, h1, h2⟩ := (RepV.mono L3 _ _ ru).own R3 e1
      rw [show w = .int j from rw']
      refine ⟨a, vs, j, k, rfl, rfl, h1, by rw [← h2.len]; exact e2, ?_⟩
      have La := later_set (u := .lst (vs.set k v)) (H := H3) hm
      exact q3 _ m3 La (R3.set hm ⟨_, upd_same, RepL.mono La _ _ (h2.set k (RepV.mono L3 _ _ (RepV.mono L2 _ _ rv)))⟩) σ ((((hs.mono L1).mono L2).mono L3).mono La)
    · exact q3.elim⟩
theorem putF_names {x : Str} {v : V} {d : D} {H : Hp} {m : List Addr} : ∀ {fs : List (Str × V)} {ns : List Str} {ds : List D}, fs.map (·.1) = ns → RepL T H m ds (fs.map (·.2)) → RepV T H m d v → (putF x v fs).map (·.1) = (putN ns ds x d).1 ∧ RepL T H m (putN ns ds x d).2 ((putF x v fs).map (·.2))
  | [], ns, ds, e, r, rd => by
    subst e
    cases ds with
    | nil => exact ⟨rfl, .one rd⟩
    | cons d ds => obtain ⟨_, _, e, _⟩ := r; cases e
  | (g, u) :: fs, ns, ds, e, r, rd => by
    subst e
    cases ds with
    | nil => cases r
    | cons d0 ds =>
      obtain ⟨v0, r0, e0, h1, h2⟩ := r
      have e1 : u = v0 := (List.cons.inj e0).1
      have e2 : fs.map (·.2) = r0 := (List.cons.inj e0).2
      subst e1 e2
      simp only [putF, List.map_cons, putN]
      by_cases hg : g = x
      · rw [if_pos hg, if_pos hg]
        exact ⟨rfl, v, _, rfl, rd, h2⟩
      · rw [if_neg hg, if_neg hg]
        obtain ⟨k1, k2⟩ := putF_names rfl h2 rd
        exact ⟨by rw [List.map_cons, k1], u, _, rfl, h1, k2⟩
theorem setF_own {c : Nat} {x d : D} {f : Str} {S S' : Sx} (h : setF c x f d S = some S') : ∃ n ns xs, x = .obj n ∧ S[n]? = some (.ins c ns xs) ∧ ns.length < 1000 ∧ S' = S.set n (.ins c (putN ns xs f d).1 (putN ns xs f d).2) := by
  unfold setF at h
  split at h
  · rename_i n
    split at h
    · rename_i c' ns xs e
      split at h
      · rename_i hc
        obtain ⟨rfl, hl⟩ := hc
        cases h
        exact ⟨n, ns, xs, rfl, e, hl, rfl⟩
      · cases h
    · cases h
  · cases h
theorem st_setf {k : Nat} {f : Str} (hw : Flat W) (hK : X.K = T.K) (hc : Cls T.K (T.C k)) (hn : NoAttr T.K (T.C k) f) (ha : PE X a (rdE T W fa)) (ho : PE X o (rdE T W fb)) (hs : swapsWith a (some (.Attribute o f p)) pos.line X.env = pure false) :
    PS X (.Assign [.Attribute o f p] a pos) (rdS T W fun s S => (fa s S).bind fun d S => (fb s S).bind fun x S => (match setF k x f d S with | some S' => .ok (.nx s) S' | none => .bad)) :=
  PS_imp (ps_fld ho ha hs) fun D σ H ⟨s, S, m, hs, hS, h⟩ => ⟨s, S, m, hs, hS, (h.bind.names hw).mono fun d S1 H1 m1 L1 R1 q v rv => by
    refine ⟨s, S1, m1, hs.mono L1, R1, (q.bind.names hw).mono fun x S2 H2 m2 L2 R2 q2 u ru => ?_⟩
    split at q2
    · rename_i S' e
      obtain ⟨n, ns, xs, rfl, e1, e2, rfl⟩ := setF_own e
      obtain ⟨a, rfl, hm⟩ := ru
      obtain ⟨dx, fl, h1, h2, h3⟩ := R2.obj n a _ hm e1
      refine ⟨a, T.C k, dx, fl, rfl, h1, by rw [hK]; exact hc, by rw [hK]; exact hn, by rw [← h2] at e2; simpa using e2, ?_⟩
      have La := later_set (u := .ins (T.C k) dx (putF f v fl)) (H := H2) hm
      obtain ⟨k1, k2⟩ := putF_names (x := f) h2 h3 (RepV.mono L2 _ _ rv)
      exact q2 _ m2 La (R2.set hm ⟨dx, _, upd_same, k1, RepL.mono La _ _ k2⟩) σ (((hs.mono L1).mono L2).mono La)
    · exact q2.elim⟩
theorem st_aug {k : Nat} {x : Str} (hw : Flat W) (hN : X.N.Nodup) (hi : X.N[k]? = some x) (hx : Loc X.env.scope x) (hf : X.fn x = true ∨ X.env.scope.names.lookup x = some .local) (ha : PE X a (rdE T W fa)) :
    PS X (.AugAssign (.Name x p) .Add a pos) (rdS T W fun s S => (match s.getD k none with
      | some (.int x) => (fa s S).bind fun d S => (match d with
        | .int y => .ok (.nx (s.set k (some (.int (x + y))))) S
        | _ => .bad)
      | _ => .bad)) :=
  PS_imp (ps_aug hN hi hx ha ip_add hf) fun D σ H ⟨s, S, m, hs, hS, h⟩ => by
    dsimp only at h
    split at h
    · rename_i i e
      obtain ⟨v, e1, rv⟩ := hs.2 k _ e
      rw [show v = .int i from rv] at e1
      refine ⟨_, e1, s, S, m, hs, hS, (h.bind.names hw).mono fun d S1 H1 m1 L1 R1 q v rv => ?_⟩
      split at q
      · rename_i j
        rw [show v = .int j from rv]
        exact ⟨i, j, rfl, rfl, q H1 m1 .refl R1 _ ((hs.mono L1).set k rfl)⟩
      · exact q.elim
    · exact h.elim
/-! ### loops -/
theorem st_for (hw : Flat W) (hp : PassesOwn (model X.prog X.w) X.A X.env X.xe) (hc : X.calm = true) (hi : PI X tg e (rdI T W fi)) (hg : PG X tg (rdG T tg')) (hb : PSs X sts (rdS T W f1)) (hset : notSet e = true) :
    PS X (.For tg e sts [] pos) (rdS T W fun s S => (fi s S).bind fun xs S => forL tg' xs.2 f1 xs.1 s S) :=
  PS_imp (ps_for hp hc hi hg hb (fold_not hset)) fun D σ H ⟨s, S, m, hs, hS, h⟩ => ⟨s, S, m, hs, hS, (h.bind.names hw).mono fun q S1 H1 m1 L1 R1 g J w => by
    refine ⟨fun i n σ H => n = q.1.length - i ∧ i ≤ q.1.length ∧ ∃ s m S, Later H1 H m1 m ∧ RelH T H m S ∧ RelV T H m s σ ∧ Ok T (fun c d H' => W c d [] H') H m (PF T D) (forL tg' q.2 f1 (q.1.drop i) s S), ⟨q.1.length, by simp, Nat.zero_le _, s, m1, S1, .refl, R1, hs.mono L1, g⟩, ?_⟩
    rintro i n σ' H' ⟨rfl, hi, s', m', S', L, R, rv, el⟩
    have hst : q.2 S' = true := by
      cases hx : q.1.drop i with
      | nil =>
        rw [hx] at el
        unfold forL at el
        split at el
        · assumption
        · exact el.elim
      | cons d ds =>
        rw [hx] at el
        unfold forL at el
        split at el
        · assumption
        · exact el.elim
    obtain ⟨w1, w2, w3⟩ := w [] (by simp) H' m' S' L R hst
    by_cases hlt : i < q.1.length
    · refine .inr ⟨w1 i hlt, fun σ' H' => ∃ n', n' < q.1.length - i ∧ (n' = q.1.length - (i + 1) ∧ i + 1 ≤ q.1.length ∧ ∃ s m S, Later H1 H' m1 m ∧ RelH T H' m S ∧ RelV T H' m s σ' ∧ Ok T (fun c d H' => W c d [] H') H' m (PF T D) (forL tg' q.2 f1 (q.1.drop (i + 1)) s S)), fun σ' H' z => z, fun x H2 y => ?_⟩
      obtain ⟨d, e1, rd, R2, La⟩ := w3 i x H2 hlt y
      have hdr : q.1.drop i = d :: q.1.drop (i + 1) := by
        rw [List.drop_eq_getElem_cons hlt]
        congr 1
        exact Option.some.inj ((List.getElem?_eq_getElem hlt).symm.trans e1)
      rw [hdr] at el
      unfold forL at el
      rw [if_pos hst] at el
      split at el
      · rename_i s1 es1
        refine ⟨d, s', s1, m', rd, rv.mono La, es1, fun σ2 r2 _ => ⟨s1, S', m', r2, R2, (el.shift La).bind.mono fun f S3 H3 m3 L3 R3 g3 => ?_⟩⟩
        cases f with
        | nx s3 => exact fun σ3 r3 => ⟨_, by omega, rfl, hlt, s3, m3, S3, L.trans (La.trans L3), R3, r3, g3⟩
        | ct s3 => exact fun σ3 r3 => ⟨_, by omega, rfl, hlt, s3, m3, S3, L.trans (La.trans L3), R3, r3, g3⟩
        | bk s3 => exact fun σ3 r3 => g3 H3 m3 .refl R3 σ3 r3
        | rt d => exact fun v rv => g3 H3 m3 .refl R3 v rv
      · exact el.elim
    · have e : i = q.1.length := by omega
      subst e
      refine .inl ⟨w2, ?_⟩
      rw [List.drop_length] at el
      unfold forL at el
      rw [if_pos hst] at el
      exact el H' m' .refl R σ' rv⟩
theorem st_whl (hw : Flat W) (hp : PassesOwn (model X.prog X.w) X.A X.env X.xe) (hc : PT X c (rdT T W ft)) (hb : PSs X sts (rdS T W f1)) (n : Nat) : PS X (.While c sts [] pos) (rdS T W fun s S => whlL ft f1 n s S) :=
  PS_imp (ps_while hp hc hb) fun D σ H ⟨s, S, m, hs, hS, h⟩ => by
    refine ⟨fun n σ H => ∃ s S m, RelV T H m s σ ∧ RelH T H m S ∧ Ok T (fun c d H' => W c d [] H') H m (PF T D) (whlL ft f1 n s S), ⟨n, s, S, m, hs, hS, h⟩, ?_⟩
    rintro n σ H ⟨s, S, m, hs, hS, h⟩
    cases n with
    | zero => exact h.elim
    | succ n =>
      unfold whlL at h
      refine ⟨s, S, m, hs, hS, (h.bind.names hw).mono fun b S1 H1 m1 L1 R1 q => ?_⟩
      cases b with
      | false => exact q H1 m1 .refl R1 σ (hs.mono L1)
      | true =>
        refine ⟨fun σ H => ∃ n', n' < n + 1 ∧ ∃ s S m, RelV T H m s σ ∧ RelH T H m S ∧ Ok T (fun c d H' => W c d [] H') H m (PF T D) (whlL ft f1 n' s S), fun σ' H' z => z, s, S1, m1, hs.mono L1, R1, q.bind.mono fun f S3 H3 m3 L3 R3 g3 => ?_⟩
        cases f with
        | nx s3 => exact fun σ3 r3 => ⟨n, Nat.lt_succ_self n, s3, S3, m3, r3, R3, g3⟩
        | ct s3 => exact fun σ3 r3 => ⟨n, Nat.lt_succ_self n, s3, S3, m3, r3, R3, g3⟩
        | bk s3 => exact fun σ3 r3 => g3 H3 m3 .refl R3 σ3 r3
        | rt d => exact fun v rv => g3 H3 m3 .refl R3 v rv
end
end TK
end
section
set_option autoImplicit false
set_option linter.all false
set_option maxRecDepth 100000
namespace TK
open PySem L2 PySem.Spec PyProof.Rows

/-! ### what the text's names stand for -/
structure TC where
  pos : List Nat
  fns : List (Str × Nat)
  cls : List (Str × (Nat × Nat))
  mts : List (Nat × Str × Nat)
  flds : List (Nat × Str)
  kws : List (Nat × List Str × List D)
  cons : List (Str × Nat)
def blts : List Str := ["len", "tuple", "list", "int", "bool", "str", "max", "min", "isinstance", "range", "all", "enumerate", "zip"]
abbrev Tb.at (T : Tb) (hs : List Addr) : Tb := { T with hid := hs }
structure TOk (T : Tb) (tb : TC) (gc : Nat → D) (G : Gm) (lv : Nat) : Prop where
  fns : ∀ x k, tb.fns.lookup x = some k → T.mg x = some (.ref (T.F k)) ∧ PySem.W.keepIn T.K (.ref (T.F k)) = true
  fo : ∀ k, k ∈ tb.pos → ∀ hs, FOa (T.at hs) lv k (G k)
  cls : ∀ x c k, tb.cls.lookup x = some (c, k) → T.mg x = some (.ref (T.C c)) ∧ Mk T.K (T.C c) (T.F k)
  mts : ∀ c x k, (c, x, k) ∈ tb.mts → Meth T.K (T.C c) x (T.F k) ∧ Cls T.K (T.C c)
  flds : ∀ c f, (c, f) ∈ tb.flds → NoAttr T.K (T.C c) f ∧ Cls T.K (T.C c)
  kws : ∀ k kw dfl, (k, kw, dfl) ∈ tb.kws → ∀ hs, FOk (T.at hs) lv k kw dfl (G k)
  cons : ∀ x j, tb.cons.lookup x = some j → ∃ u v, T.mg x = some u ∧ L2.RelV v u ∧ ∀ hs H m, RepV (T.at hs) H m (gc j) v
  blt : ∀ x ∈ blts, T.mg x = none
/-- where an expression stands -/
structure Ctx (X : Cx) (T : Tb) (W : WX) (N : List Str) (sc : Scope) (lv : Nat) (mkb top tabd : Bool) : Prop where
  same : Same X T
  names : X.N = N
  nd : N.Nodup
  scope : X.env.scope = sc
  calm : X.calm = true
  room : Room (if mkb = true then lv + 1 else lv) X.A
  tk : Takes X W
  fl : Flat W
  fnd : top = true → ∀ x, X.fn x = true
  tab : tabd = true → ∃ c P, X.env.code = .ref c ∧ GxR.TabB X.base X.mg c P ∧ P ∈ T.tabs
section
variable {X : Cx} {T : Tb} {W : WX} {N : List Str} {sc : Scope} {lv : Nat} {mkb top tabd : Bool}
theorem Ctx.roomL (C : Ctx X T W N sc lv mkb top tabd) : Room lv X.A := by
  have := C.room
  cases mkb with
  | true => exact this.mono (Nat.le_succ _)
  | false => exact this
theorem Ctx.room1 (C : Ctx X T W N sc lv true top tabd) : Room (lv + 1) X.A := C.room
theorem Ctx.units (C : Ctx X T W N sc lv mkb top tabd) : X.A.units + 65 < cLine := by have := C.roomL.un; omega
theorem Ctx.hide (C : Ctx X T W N sc lv mkb top tabd) (hs : List Addr) : Ctx X (T.at hs) W N sc lv mkb top tabd := ⟨⟨C.same.P, C.same.w, C.same.K, C.same.mg, C.same.base⟩, C.names, C.nd, C.scope, C.calm, C.room, C.tk, C.fl, C.fnd, C.tab⟩
theorem TOk.at_ {tb : TC} {gc : Nat → D} {G : Gm} (O : TOk T tb gc G lv) (hs : List Addr) : TOk (T.at hs) tb gc G lv := ⟨O.fns, O.fo, O.cls, O.mts, O.flds, O.kws, O.cons, O.blt⟩
/-- a comprehension's block -/
theorem Ctx.blk (C : Ctx X T W N sc lv mkb top tabd) (s : Shared) (H : Hp) (scope : Scope) (c : Addr) (cl : List (Str × Addr)) (fp : List Addr) : Ctx (X.blk s H scope (compEnvC scope cl c X.env) fp) T noW N (relS scope sc) lv mkb false false :=
  ⟨⟨C.same.P, C.same.w, C.same.K, C.same.mg, C.same.base⟩, C.names, C.nd, by rw [← C.scope]; rfl, C.calm, C.room, takes_no, flat_no, fun h => (Bool.false_ne_true h).elim, fun h => (Bool.false_ne_true h).elim⟩
/-- a generator expression's frame -/
theorem Ctx.gen (C : Ctx X T W N sc lv mkb top tabd) {A' : Around} (hr : Room lv A') (s : Shared) (H : Hp) (scope : Scope) (c : Addr) (code : Value) (fp : List Addr) (pn : List (Addr × Obj)) : Ctx (gcx X A' s H (gEnv X scope c code) fp pn) T noW N scope lv false false false :=
  ⟨⟨C.same.P, C.same.w, C.same.K, C.same.mg, C.same.base⟩, C.names, C.nd, rfl, C.calm, hr, takes_no, flat_no, fun h => (Bool.false_ne_true h).elim, fun h => (Bool.false_ne_true h).elim⟩
theorem Ctx.nox (C : Ctx X T W N sc lv mkb top tabd) : Ctx X.nox T noW N sc lv mkb top tabd :=
  ⟨⟨C.same.P, C.same.w, C.same.K, C.same.mg, C.same.base⟩, C.names, C.nd, C.scope, C.calm, C.room, takes_no, flat_no, C.fnd, C.tab⟩
end

/-! ### what must be seen of the text -/
def isKind (sc : Scope) (x : Str) (k : NameKind) : Bool := decide (sc.names.lookup x = some k)
def isVis (sc : Scope) (x : Str) : Bool := isKind sc x .local || isKind sc x .cell || isKind sc x .free
/-- a name that is stored to -/
def isTgt (top : Bool) (sc : Scope) (x : Str) : Bool := isKind sc x .local || (top && isKind sc x .cell)
def isGl (sc : Scope) (x : Str) : Bool := isKind sc x .globalImplicit
def notDbg (x : Str) : Bool := decide (x ≠ "__debug__" ∧ x ≠ "__classdict__" ∧ x ≠ "__name__")
def plainIx : Expr → Bool
  | .Slice _ _ _ _ => false
  | _ => true
mutual
def ckG (top : Bool) (N : List Str) (sc : Scope) : Tg → Expr → Bool
  | .nm i, .Name x _ => decide (N[i]? = some x) && isTgt top sc x
  | .tp ts, .Tuple es _ _ => es.all notStar && ckGs top N sc ts es
  | _, _ => false
def ckGs (top : Bool) (N : List Str) (sc : Scope) : List Tg → List Expr → Bool
  | [], [] => true
  | t :: ts, e :: es => ckG top N sc t e && ckGs top N sc ts es
  | _, _ => false
end
def ckC (d : D) (c : Const) : Bool := match d, c with
  | .non, .none => true
  | .bl a, .bool b => decide (a = b)
  | .int a, .int b => decide (a = b)
  | .str a, .str b => decide (a = b)
  | _, _ => false
def ownOf (N : List Str) (vs : List Nat) : List (Str × Nat) := vs.map fun i => (N[i]?.getD "", i)
def kfit (q : Key) (e : Expr) : Bool := match e, q with
  | .Constant (.str x) _ _, .inr y => decide (x = y)
  | .Constant (.int n) _ _, .inl m => decide (n = m)
  | _, _ => false
def ckK : List Key → List (Option Expr) → Bool
  | [], [] => true
  | q :: qs, some e :: es => kfit q e && ckK qs es
  | _, _ => false
/-- every value of a test that is asked as it stands -/
def plainT : Expr → Bool
  | .UnaryOp .Not _ _ => false
  | .BoolOp _ _ _ => false
  | .IfExp _ _ _ _ => false
  | .Compare _ _ _ _ => false
  | _ => true
theorem plain_true {a : Expr} {env : PySem.Env} (h : plainT a = true) : ∀ whole, isTrue a env whole = (do let v ← whole; standAt a.pos; holding [v] (truthy v)) := by
  intro whole
  cases a <;> first
    | rfl
    | (rename_i op x p; cases op <;> first | rfl | cases h)
    | cases h
def tyOf : String → Bool
  | t => decide (t ∈ ["int", "bool", "tuple", "list", "str"])
/-- where an expression stands: a new instance may be made; stores to cells; the table -/
structure KC where
  mkb : Bool
  top : Bool
  tabd : Bool
  sc : Scope
section
variable (tb : TC)
mutual
def ckE (N : List Str) : KC → E → Expr → Bool
  | q, .v i, .Name x _ => decide (N[i]? = some x) && isVis q.sc x && notDbg x
  | q, .c d, .Constant c _ _ => ckC d c
  | q, .g j, .Name x _ => decide (tb.cons.lookup x = some j) && isGl q.sc x && notDbg x
  | q, .bin o a b, .BinOp a' o' b' _ => decide (o' = o.py) && ckE N q a a' && ckE N q b b'
  | q, .neg a, .UnaryOp .USub a' _ => ckE N q a a'
  | q, .not a, .UnaryOp .Not a' _ => ckE N q a a'
  | q, .and es, .BoolOp .And as _ => ckEs N q es as && !as.isEmpty
  | q, .or es, .BoolOp .Or as _ => ckEs N q es as && !as.isEmpty
  | q, .cmp o a b, .Compare a' [o'] [b'] _ => decide (o' = o.py) && !(behindInMarks o.py b') && ckE N q a a' && ckE N q b b'
  | q, .chain o p a b c, .Compare a' [o', p'] [b', c'] _ => decide (o' = o.py) && decide (p' = p.py) && !(lastMarks [o.py, p.py] [b', c']) && ckE N q a a' && ckE N q b b' && ckE N q c c'
  | q, .ife t a b, .IfExp t' a' b' _ => ckE N q t t' && ckE N q a a' && ckE N q b b'
  | q, .sub a i, .Subscript a' i' _ => plainIx i' && ckE N q a a' && ckE N q i i'
  | q, .dget a i, .Subscript a' i' _ => plainIx i' && ckE N q a a' && ckE N q i i'
  | q, .slc a lo hi, .Subscript a' (.Slice lo' hi' none _) _ => ckE N q a a' && ckO N q lo lo' && ckO N q hi hi'
  | q, .tup es, .Tuple as _ _ => ckEs N q es as
  | q, .lst tr es, .List as _ => ckEs N q es as
  | q, .dct tr ks es, .Dict keys as _ => ckEs N q es as && ckK ks keys && decide (keys.length = as.length ∧ keys ≠ [] ∧ keys.length ≤ 15)
  | q, .b1 f a, .Call (.Name x _) [a'] [] _ => decide (x = f.name) && isGl q.sc x && notStar a' && ckE N q a a'
  | q, .mm m a b, .Call (.Name x _) [a', b'] [] _ => decide (x = mmN m) && isGl q.sc x && notStar a' && notStar b' && ckE N q a a' && ckE N q b b'
  | q, .isi t a, .Call (.Name x _) [a', .Name n _] [] _ => decide (x = "isinstance") && isGl q.sc x && notStar a' && isGl q.sc n && decide (n = Str.ofString t) && decide (bootBuiltins n = some (.type t)) && decide (n ∈ blts) && ckE N q a a'
  | q, .fld c a f, .Attribute a' f' _ => decide (f' = f) && decide ((c, f) ∈ tb.flds) && notSup a' && ckE N q a a'
  | q, .call k md es, .Call (.Name x _) as [] _ => decide (tb.fns.lookup x = some k) && decide (k ∈ tb.pos) && isGl q.sc x && notDbg x && ckEs N q es as
  | q, .new c k md es, .Call (.Name x _) as [] _ => q.mkb && decide (tb.cls.lookup x = some (c, k)) && decide (k ∈ tb.pos) && isGl q.sc x && notDbg x && ckEs N q es as
  | q, .newK c k md kw dfl es, .Call (.Name x _) [] kws _ => q.mkb && decide (tb.cls.lookup x = some (c, k)) && decide ((k, kw, dfl) ∈ tb.kws) && isGl q.sc x && notDbg x && kwOk kws kw && ckKw N q es kws
  | q, .mt c k md a x es, .Call (.Attribute a' x' apos) as [] pos => decide (x' = x) && decide ((c, x, k) ∈ tb.mts) && decide (k ∈ tb.pos) && notSup a' && (apos.endLine == pos.line) && decide (as.length < 30) && ckE N q a a' && ckEs N q es as
  | q, .app a b, .Call (.Attribute a' x' apos) [b'] [] pos => decide (x' = "append") && notSup a' && (apos.endLine == pos.line) && notStar b' && ckE N q a a' && ckE N q b b'
  | q, .ext a b, .Call (.Attribute a' x' apos) [b'] [] pos => decide (x' = "extend") && notSup a' && (apos.endLine == pos.line) && notStar b' && ckE N q a a' && ckE N q b b'
  | q, .pop a, .Call (.Attribute a' x' apos) [] [] pos => decide (x' = "pop") && notSup a' && (apos.endLine == pos.line) && ckE N q a a'
  | q, .popi a b, .Call (.Attribute a' x' apos) [b'] [] pos => decide (x' = "pop") && notSup a' && (apos.endLine == pos.line) && notStar b' && ckE N q a a' && ckE N q b b'
  | q, .lc tr tg it cond elt vs, .ListComp elt' gens scope _ => (match gens with
    | [⟨tg', iter', ifs', 0⟩] => ckI N q it iter' && blkC N q.sc scope (ownOf N vs) && decide (∀ i ∈ tg.slots, i ∈ vs) && notSet iter' && ckG false N (relS scope q.sc) tg tg' && ckIf N ⟨q.mkb, false, false, relS scope q.sc⟩ cond ifs' && ckE N ⟨q.mkb, false, false, relS scope q.sc⟩ elt elt'
    | _ => false)
  | q, .all tg it elt vs, .Call (.Name x _) [.GeneratorExp elt' gens scope _] [] _ => (match gens with
    | [⟨tg', iter', [], 0⟩] => q.mkb && q.tabd && decide (x = "all") && isGl q.sc x && ckI N q it iter' && blkC N q.sc scope (ownOf N vs) && decide (∀ i ∈ tg.slots, i ∈ vs) && (match iter' with | .Set _ _ _ => false | .List _ _ => false | _ => true) && decide (scope.isCoroutine = false) && (scope.names.all fun y => decide (y.2 ≠ .cell)) && isKind scope ".0" .local &&
        ckG false N scope tg tg' && ckE N ⟨false, false, false, scope⟩ elt elt'
    | _ => false)
  | _, _, _ => false
def ckEs (N : List Str) : KC → Es → List Expr → Bool
  | q, .nil, [] => true
  | q, .cons e es, a :: as => notStar a && ckE N q e a && ckEs N q es as
  | _, _, _ => false
def ckKw (N : List Str) : KC → Es → List Keyword → Bool
  | q, .nil, [] => true
  | q, .cons e es, ⟨_, a, _⟩ :: as => ckE N q e a && ckKw N q es as
  | _, _, _ => false
def ckO (N : List Str) : KC → Eo → Option Expr → Bool
  | q, .none, none => true
  | q, .some e, some a => ckE N q e a
  | _, _, _ => false
/-- a clause's tests -/
def ckIf (N : List Str) : KC → Eo → List Expr → Bool
  | q, .none, [] => true
  | q, .some e, [a] => ckE N q e a
  | _, _, _ => false
def ckI (N : List Str) : KC → It → Expr → Bool
  | q, .e a, a' => ckE N q a a'
  | q, .rng .none a, .Call (.Name x _) [a'] [] _ => decide (x = "range") && isGl q.sc x && notStar a' && ckE N q a a'
  | q, .rng (.some a) b, .Call (.Name x _) [a', b'] [] _ => decide (x = "range") && isGl q.sc x && notStar a' && notStar b' && ckE N q a a' && ckE N q b b'
  | _, _, _ => false
end
end
end TK
end
section
set_option autoImplicit false
set_option linter.all false
set_option maxRecDepth 100000
set_option maxHeartbeats 4000000
namespace TK
open PySem L2 PySem.Spec PyProof.Rows

section
variable {X : Cx} {T : Tb} {W : WX} {a b c o i : Expr} {as : List Expr} {fa fb fc : Vs → Sx → TK.R D} {fs : Vs → Sx → TK.R (List D)} {pos apos p : Pos} {sc : Scope} {x : Str}
theorem pair (hK : X.K = T.K) (h : PE X a (rdE T W fa)) (hp : plainT a = true) : PE X a (rdE T W (mk fa).val) ∧ PT X a (rdT T W (mk fa).tst) := ⟨h, s_truth hK h (plain_true hp)⟩
theorem kind_of {k : NameKind} (h : isKind sc x k = true) : sc.names.lookup x = some k := of_decide_eq_true h
theorem vis_of (h : isVis sc x = true) : Vis sc x := by
  unfold isVis at h
  simp only [Bool.or_eq_true] at h
  rcases h with (h | h) | h
  · exact .inl (kind_of h)
  · exact .inr (.inl (kind_of h))
  · exact .inr (.inr (kind_of h))
theorem gl_of (hs : X.env.scope = sc) (h : isGl sc x = true) : Gl X x := by
  show X.env.scope.names.lookup x = _
  rw [hs]
  exact kind_of h
theorem dbg_of (h : notDbg x = true) : (x == ("__debug__" : Str)) = false ∧ (x == ("__classdict__" : Str)) = false ∧ x ≠ "__name__" := by
  obtain ⟨h1, h2, h3⟩ := of_decide_eq_true h
  exact ⟨beq_eq_false_iff_ne.mpr h1, beq_eq_false_iff_ne.mpr h2, h3⟩
theorem plain_ix (h : plainIx a = true) : PlainIx a := by
  cases a <;> first | (cases h; done) | (intros; rfl) | exact trivial | (unfold PlainIx; intros; rfl)
theorem noSl_of (h : plainIx a = true) : NoSl a := by
  cases a <;> first | (cases h; done) | (intros; rfl) | exact trivial | (unfold NoSl; intros; first | rfl | nofun)
theorem e_var {k : Nat} (hN : X.N[k]? = some x) (hv : Vis X.env.scope x) (hd : (x == ("__debug__" : Str)) = false) (hcd : (x == ("__classdict__" : Str)) = false) : PE X (.Name x pos) (rdE T W fun s S => lift (s.getD k none) S) :=
  PE_imp (pe_var hN hv hd hcd) fun σ H Q ⟨s, S, m, hs, hS, h⟩ => by
    obtain ⟨d, e, q⟩ := lift_ok h
    obtain ⟨v, e1, rv⟩ := hs.2 k d e
    exact ⟨v, e1, q.here hS rv⟩
theorem tC_of {v : V} {d : D} (h : PE X a (tC v)) (hd : ∀ H m, RepV T H m d v) : PE X a (rdE T W fun _ S => .ok d S) :=
  PE_imp h fun σ H Q ⟨s, S, m, hs, hS, h⟩ => h.here hS (hd H m)
theorem e_const {d : D} {k : Const} {n : Nat} (h : ckC d k = true) : PE X (.Constant k n pos) (rdE T W fun _ S => .ok d S) := by
  unfold ckC at h
  split at h
  · exact tC_of pe_non fun _ _ => rfl
  · cases of_decide_eq_true h
    exact tC_of pe_bl fun _ _ => rfl
  · cases of_decide_eq_true h
    exact tC_of pe_int fun _ _ => rfl
  · cases of_decide_eq_true h
    exact tC_of pe_str fun _ _ => rfl
  · cases h
theorem PE_bool1 {op : BoolOp} {t : TE} (h : PE X a t) : PE X (.BoolOp op [a] pos) t := ⟨fun pins s σ H Q I q => h.run pins s σ H Q I q⟩
theorem own_snd (N : List Str) (vs : List Nat) : (ownOf N vs).map (·.2) = vs := by
  unfold ownOf
  rw [List.map_map]
  exact List.map_id vs
theorem loc_of {top : Bool} (hs : X.env.scope = sc) (hf : top = true → ∀ x, X.fn x = true) (h : isTgt top sc x = true) : Loc X.env.scope x ∧ (X.fn x = true ∨ X.env.scope.names.lookup x = some .local) := by
  rw [hs]
  unfold isTgt at h
  simp only [Bool.or_eq_true, Bool.and_eq_true] at h
  rcases h with h | ⟨h1, h⟩
  · exact ⟨.inl (kind_of h), .inr (kind_of h)⟩
  · exact ⟨.inr (kind_of h), .inl (hf h1 x)⟩
mutual
theorem okG {N : List Str} {top : Bool} (hN : X.N = N) (nd : N.Nodup) (hs : X.env.scope = sc) (hf : top = true → ∀ x, X.fn x = true) (hK : X.K = T.K) (hc : X.calm = true) : ∀ (t : Tg) (e : Expr), ckG top N sc t e = true → PG X e (rdG T t)
  | .nm k, e, h => by
    cases e with
    | Name x p =>
      simp only [ckG, Bool.and_eq_true, decide_eq_true_eq] at h
      obtain ⟨h1, h2⟩ := loc_of hs hf h.2
      exact s_gname (by rw [hN]; exact nd) (by rw [hN]; exact h.1) h1 h2
    | _ => simp [ckG] at h
  | .tp ts, e, h => by
    cases e with
    | Tuple es k p =>
      simp only [ckG, Bool.and_eq_true] at h
      obtain ⟨h1, h2⟩ := okGs hN nd hs hf hK hc ts es h.1 h.2
      exact s_gtup hK hc h.1 h1 h2
    | _ => simp [ckG] at h
theorem okGs {N : List Str} {top : Bool} (hN : X.N = N) (nd : N.Nodup) (hs : X.env.scope = sc) (hf : top = true → ∀ x, X.fn x = true) (hK : X.K = T.K) (hc : X.calm = true) : ∀ (ts : List Tg) (es : List Expr), es.all notStar = true → ckGs top N sc ts es = true → es.length = ts.length ∧ PGs X es (rdGs T ts)
  | [], [], _, _ => ⟨rfl, s_gs_nil⟩
  | t :: ts, e :: es, hst, h => by
    simp only [ckGs, Bool.and_eq_true] at h
    rw [List.all_cons, Bool.and_eq_true] at hst
    obtain ⟨h1, h2⟩ := okGs hN nd hs hf hK hc ts es hst.2 h.2
    exact ⟨by simp [h1], s_gs_cons hst.1 (okG hN nd hs hf hK hc t e h.1) h2⟩
  | [], _ :: _, _, h => by simp [ckGs] at h
  | _ :: _, [], _, h => by simp [ckGs] at h
end
end
end TK
end
section
set_option autoImplicit false
set_option linter.all false
set_option maxRecDepth 100000
set_option maxHeartbeats 8000000
namespace TK
open PySem L2 PySem.Spec PyProof.Rows

section
variable {X : Cx} {T : Tb} {W : WX} {a b c o i : Expr} {as : List Expr} {fa fb fc : Vs → Sx → TK.R D} {fs : Vs → Sx → TK.R (List D)} {pos apos p : Pos} {sc : Scope} {x : Str}
theorem e_glob {gc : Nat → D} {G : Gm} {tb : TC} {lv j : Nat} (E : Same X T) (hs : X.env.scope = sc) (O : TOk T tb gc G lv) (h1 : tb.cons.lookup x = some j) (h2 : isGl sc x = true) (h3 : notDbg x = true) : PE X (.Name x pos) (rdE T W fun _ S => .ok (gc j) S) := by
  obtain ⟨u, v, e1, e2, e3⟩ := O.cons x j h1
  exact tC_of (pe_glob (gl_of hs h2) (by rw [E.mg]; exact e1) e2 (dbg_of h3).1) fun H m => e3 T.hid H m
theorem genFold_not {iter : Expr} {env : PySem.Env} (h : (match iter with | .Set _ _ _ => false | .List _ _ => false | _ => true) = true) (v : Value) : genFold iter env v = pure v := by
  cases iter <;> first | rfl | cases h
theorem keys_some : ∀ {ks : List Key} {keys : List (Option Expr)}, ckK ks keys = true → keys.all (·.isSome) = true ∧ keys.length = ks.length
  | [], [], _ => ⟨rfl, rfl⟩
  | q :: qs, some e :: es, h => by
    simp only [ckK, Bool.and_eq_true] at h
    obtain ⟨h1, h2⟩ := keys_some h.2
    exact ⟨by simpa using h1, by simp [h2]⟩
  | [], _ :: _, h => by simp [ckK] at h
  | _ :: _, [], h => by simp [ckK] at h
  | _ :: _, none :: _, h => by simp [ckK] at h
end
section
variable {tb : TC} {gc : Nat → D} {G : Gm} {lv : Nat} {N : List Str}
mutual
theorem okE (e : E) (a : Expr) (q : KC) (X : Cx) (T : Tb) (W : WX) (h : ckE tb N q e a = true) (C : Ctx X T W N q.sc lv q.mkb q.top q.tabd) (O : TOk T tb gc G lv) : PE X a (rdE T W (ev gc G e).val) ∧ PT X a (rdT T W (ev gc G e).tst) := by
  have hK : X.K = T.K := C.same.K
  have hs : X.env.scope = q.sc := C.scope
  have hu := C.units
  have blt : ∀ x, decide (x ∈ blts) = true → X.mg x = none := fun x hx => by rw [C.same.mg]; exact O.blt x (of_decide_eq_true hx)
  unfold ckE at h
  split at h
  · -- v
    rename_i i x p
    simp only [Bool.and_eq_true, decide_eq_true_eq] at h
    obtain ⟨⟨h1, h2⟩, h3⟩ := h
    exact pair hK (e_var (by rw [C.names]; exact h1) (by rw [hs]; exact vis_of h2) (dbg_of h3).1 (dbg_of h3).2.1) rfl
  · -- c
    exact pair hK (e_const h) rfl
  · -- g
    rename_i j x p
    simp only [Bool.and_eq_true, decide_eq_true_eq] at h
    exact pair hK (e_glob C.same hs O h.1.1 h.1.2 h.2) rfl
  · -- bin
    rename_i o a b a' o' b' p
    simp only [Bool.and_eq_true, decide_eq_true_eq] at h
    obtain ⟨⟨rfl, h1⟩, h2⟩ := h
    exact pair hK (s_bin hK o (okE a a' q X T W h1 C O).1 (okE b b' q X T W h2 C O).1) rfl
  · -- neg
    rename_i a a' p
    exact pair hK (s_neg (okE a a' q X T W h C O).1) rfl
  · -- not
    rename_i a a' p
    exact ⟨s_not hK (okE a a' q X T W h C O).1, s_notT (okE a a' q X T W h C O).2⟩
  · -- and
    rename_i es as p
    simp only [Bool.and_eq_true] at h
    have := okB es as q X T W h.1 (by simpa using h.2) C O p
    exact ⟨this.2.2.1, this.1.pt⟩
  · -- or
    rename_i es as p
    simp only [Bool.and_eq_true] at h
    have := okB es as q X T W h.1 (by simpa using h.2) C O p
    exact ⟨this.2.2.2, this.2.1.pt⟩
  · -- cmp
    rename_i o a b a' o' b' p
    simp only [Bool.and_eq_true, decide_eq_true_eq, Bool.not_eq_true'] at h
    obtain ⟨⟨⟨rfl, h0⟩, h1⟩, h2⟩ := h
    exact s_cmp hK hu o h0 (okE a a' q X T W h1 C O).1 (okE b b' q X T W h2 C O).1
  · -- chain
    rename_i o o2 a b c a' o' o2' b' c' p
    simp only [Bool.and_eq_true, decide_eq_true_eq, Bool.not_eq_true'] at h
    obtain ⟨⟨⟨⟨⟨rfl, rfl⟩, h0⟩, h1⟩, h2⟩, h3⟩ := h
    exact s_chain hK hu o o2 h0 (okE a a' q X T W h1 C O).1 (okE b b' q X T W h2 C O).1 (okE c c' q X T W h3 C O).1
  · -- ife
    rename_i t a b t' a' b' p
    simp only [Bool.and_eq_true] at h
    exact ⟨s_ife (okE t t' q X T W h.1.1 C O).2 (okE a a' q X T W h.1.2 C O).1 (okE b b' q X T W h.2 C O).1, PT_bad fun _ _ => rfl⟩
  · -- sub
    rename_i a i a' i' p
    simp only [Bool.and_eq_true] at h
    exact pair hK (s_sub hK (plain_ix h.1.1) (okE a a' q X T W h.1.2 C O).1 (okE i i' q X T W h.2 C O).1) rfl
  · -- dget
    rename_i a i a' i' p
    simp only [Bool.and_eq_true] at h
    exact pair hK (s_dget (by omega) (fun l hh st pp e => by rw [e] at h; simp [plainIx] at h) (okE a a' q X T W h.1.2 C O).1 (okE i i' q X T W h.2 C O).1 (noSl_of h.1.1)) rfl
  · -- slc
    rename_i a lo hi a' lo' hi' p1 p2
    simp only [Bool.and_eq_true] at h
    exact pair hK (s_slc hK (okE a a' q X T W h.1.1 C O).1 (okO lo lo' q X T W h.1.2 C O) (okO hi hi' q X T W h.2 C O)) rfl
  · -- tup
    rename_i es as k p
    exact pair hK (s_tup (okEs es as q X T W h C O).1) rfl
  · -- lst
    rename_i tr es as p
    exact pair hK (s_lst (tr := tr) (okEs es as q X T W h C O).1) rfl
  · -- dct
    rename_i tr ks es keys as p
    simp only [Bool.and_eq_true, decide_eq_true_eq] at h
    obtain ⟨⟨h1, h2⟩, h3, h4, h5⟩ := h
    obtain ⟨k1, k2⟩ := keys_some h2
    exact pair hK (s_dct (tr := tr) (okDs es as q X T W ks keys p h1 h2 h3 C O) k1 h3 h4 h5 k2) rfl
  · -- b1
    rename_i f a x p1 a' p2
    simp only [Bool.and_eq_true, decide_eq_true_eq] at h
    obtain ⟨⟨⟨rfl, h1⟩, h2⟩, h3⟩ := h
    exact pair hK (s_b1 hK f h2 (gl_of hs h1) (blt _ (by cases f with
      | list tr => exact (by decide +kernel : decide (Str.ofString "list" ∈ blts) = true)
      | _ => decide +kernel)) (okE a a' q X T W h3 C O).1) rfl
  · -- mm
    rename_i m a b x p1 a' b' p2
    simp only [Bool.and_eq_true, decide_eq_true_eq] at h
    obtain ⟨⟨⟨⟨⟨rfl, h1⟩, h2⟩, h3⟩, h4⟩, h5⟩ := h
    exact pair hK (s_mm C.calm m h2 h3 (gl_of hs h1) (blt _ (by cases m <;> decide +kernel)) (okE a a' q X T W h4 C O).1 (okE b b' q X T W h5 C O).1) rfl
  · -- isi
    rename_i t a x p1 a' n p3 p2
    simp only [Bool.and_eq_true, decide_eq_true_eq] at h
    obtain ⟨⟨⟨⟨⟨⟨⟨rfl, h1⟩, h2⟩, h3⟩, h4⟩, h5⟩, h6⟩, h7⟩ := h
    have hn : n ≠ "__name__" ∧ (n == ("__debug__" : Str)) = false := by
      have z : ∀ y ∈ blts, y ≠ "__name__" ∧ (y == ("__debug__" : Str)) = false := by decide +kernel
      exact z n h6
    exact pair hK (s_isi hK h2 (gl_of hs h1) (blt _ (by decide +kernel)) (gl_of hs h3) (blt n (by rw [decide_eq_true_eq]; exact h6)) h5 hn.1 hn.2 (okE a a' q X T W h7 C O).1) rfl
  · -- fld
    rename_i c a f a' f' p
    simp only [Bool.and_eq_true, decide_eq_true_eq] at h
    obtain ⟨⟨⟨rfl, h1⟩, h2⟩, h3⟩ := h
    obtain ⟨k1, k2⟩ := O.flds c _ h1
    exact pair hK (s_fld hK k2 k1 h2 (okE a a' q X T W h3 C O).1) rfl
  · -- call
    rename_i k md es x p1 as p2
    simp only [Bool.and_eq_true, decide_eq_true_eq] at h
    obtain ⟨⟨⟨⟨h1, h2⟩, h3⟩, h4⟩, h5⟩ := h
    obtain ⟨k1, k2⟩ := O.fns x k h1
    obtain ⟨e1, e2, e3⟩ := okEs es as q X T W h5 C O
    exact pair hK (s_call (md := md) C.same (O.fo k h2 T.hid) C.roomL (gl_of hs h3) k1 k2 (dbg_of h4).1 C.tk C.fl e2 e3 e1) rfl
  · -- new
    rename_i c k md es x p1 as p2
    simp only [Bool.and_eq_true, decide_eq_true_eq] at h
    obtain ⟨⟨⟨⟨⟨h0, h1⟩, h2⟩, h3⟩, h4⟩, h5⟩ := h
    obtain ⟨k1, k2⟩ := O.cls x c k h1
    obtain ⟨e1, e2, e3⟩ := okEs es as q X T W h5 C O
    have hr : Room (lv + 1) X.A := by have := C.room; rw [h0] at this; exact this
    exact pair hK (s_new (md := md) C.same (O.fo k h2 T.hid) k2 hr (gl_of hs h3) k1 (dbg_of h4).1 C.tk C.fl e2 e3 e1) rfl
  · -- newK
    rename_i c k md kw dfl es x p1 kws p2
    simp only [Bool.and_eq_true, decide_eq_true_eq] at h
    obtain ⟨⟨⟨⟨⟨⟨h0, h1⟩, h2⟩, h3⟩, h4⟩, h5⟩, h6⟩ := h
    obtain ⟨k1, k2⟩ := O.cls x c k h1
    have hr : Room (lv + 1) X.A := by have := C.room; rw [h0] at this; exact this
    exact pair hK (s_newK (md := md) C.same (O.kws k kw dfl h2 T.hid) k2 hr (gl_of hs h3) k1 (dbg_of h4).1 C.tk C.fl h5 (okKw es kws q X T W h6 C O)) rfl
  · -- mt
    rename_i c k md a x es a' x' apos as p2
    simp only [Bool.and_eq_true, decide_eq_true_eq] at h
    obtain ⟨⟨⟨⟨⟨⟨⟨rfl, h1⟩, h2⟩, h3⟩, h4⟩, h5⟩, h6⟩, h7⟩ := h
    obtain ⟨k1, k2⟩ := O.mts c _ k h1
    obtain ⟨e1, e2, e3⟩ := okEs es as q X T W h7 C O
    exact pair hK (s_mt (md := md) C.same (O.fo k h2 T.hid) k2 k1 C.roomL C.tk C.fl h3 h4 h5 e2 e3 (okE a a' q X T W h6 C O).1 e1) rfl
  · -- app
    rename_i a b a' x' apos b' p2
    simp only [Bool.and_eq_true, decide_eq_true_eq] at h
    obtain ⟨⟨⟨⟨⟨rfl, h1⟩, h2⟩, h3⟩, h4⟩, h5⟩ := h
    exact pair hK (s_app h1 h2 h3 (okE a a' q X T W h4 C O).1 (okE b b' q X T W h5 C O).1) rfl
  · -- ext
    rename_i a b a' x' apos b' p2
    simp only [Bool.and_eq_true, decide_eq_true_eq] at h
    obtain ⟨⟨⟨⟨⟨rfl, h1⟩, h2⟩, h3⟩, h4⟩, h5⟩ := h
    exact pair hK (s_ext h1 h2 h3 (okE a a' q X T W h4 C O).1 (okE b b' q X T W h5 C O).1) rfl
  · -- pop
    rename_i a a' x' apos p2
    simp only [Bool.and_eq_true, decide_eq_true_eq] at h
    obtain ⟨⟨⟨rfl, h1⟩, h2⟩, h4⟩ := h
    exact pair hK (s_pop h1 h2 (okE a a' q X T W h4 C O).1) rfl
  · -- popi
    rename_i a b a' x' apos b' p2
    simp only [Bool.and_eq_true, decide_eq_true_eq] at h
    obtain ⟨⟨⟨⟨⟨rfl, h1⟩, h2⟩, h3⟩, h4⟩, h5⟩ := h
    exact pair hK (s_popi h1 h2 h3 (okE a a' q X T W h4 C O).1 (okE b b' q X T W h5 C O).1) rfl
  · -- lc
    rename_i tr tg it cond elt vs elt' gens scope p
    split at h
    · rename_i tg' iter' ifs'
      simp only [Bool.and_eq_true, decide_eq_true_eq] at h
      obtain ⟨⟨⟨⟨⟨⟨h1, h2⟩, h3⟩, h4⟩, h5⟩, h6⟩, h7⟩ := h
      have := s_lc (X := X) (T := T) (W := W) (elt := elt') (tg := tg') (iter := iter') (ifs := ifs') (scope := scope) (own := ownOf N vs) (tr := tr) (tg' := tg) (fi := evi gc G it) (fe := (ev gc G elt).val) (ft := evc gc G cond) (pos := p) C.calm (by rw [C.names]; exact C.nd)
        (okI it iter' q X T W h1 C O tg') (by rw [C.names, hs]; exact blkOk_by h2) (by rw [own_snd]; exact h3) h4
        (fun s H c cl fp p => okG (T := T.at (p :: T.hid)) (C.blk s H scope c cl fp).names C.nd (C.blk s H scope c cl fp).scope (C.blk s H scope c cl fp).fnd hK C.calm tg tg' h5)
        (fun s H c cl fp => okIf cond ifs' ⟨q.mkb, false, false, relS scope q.sc⟩ _ T h6 (C.blk s H scope c cl fp) O)
        (fun s H c cl fp p => (okE elt elt' ⟨q.mkb, false, false, relS scope q.sc⟩ _ (T.at (p :: T.hid)) noW h7 ((C.blk s H scope c cl fp).hide _) (O.at_ _)).1)
      rw [own_snd] at this
      exact pair hK this rfl
    · cases h
  · -- all
    rename_i tg it elt vs x p1 elt' gens scope p3 p2
    split at h
    · rename_i tg' iter'
      simp only [Bool.and_eq_true, decide_eq_true_eq] at h
      obtain ⟨⟨⟨⟨⟨⟨⟨⟨⟨⟨⟨⟨h0, ht⟩, rfl⟩, h1⟩, h2⟩, h3⟩, h4⟩, h5⟩, h6⟩, h7⟩, h8⟩, h9⟩, h10⟩ := h
      have hr : Room (lv + 1) X.A := by have := C.room; rw [h0] at this; exact this
      obtain ⟨c, P, t1, t2, t3⟩ := C.tab ht
      have := s_all (X := X) (T := T) (W := W) (elt := elt') (tg := tg') (iter := iter') (scope := scope) (own := ownOf N vs) (tg' := tg) (fi := evi gc G it) (fe := (ev gc G elt).val) (pos := p2) (p := p1) (gpos := p3) t3 (by rw [own_snd]; exact h4) hr (gl_of hs h1) (blt _ (by decide +kernel)) t2 t1 C.calm (by rw [C.names]; exact C.nd)
        (okI it iter' q X T W h2 C O tg') (by rw [C.names, hs]; exact blkOk_by h3) h6 (fun y hy => by
          have := List.all_eq_true.mp h7 y hy
          exact of_decide_eq_true this) (kind_of h8)
        (fun A' s H c code fp pn hr' => okG (C.gen hr' s H scope c code fp pn).names C.nd (C.gen hr' s H scope c code fp pn).scope (C.gen hr' s H scope c code fp pn).fnd hK C.calm tg tg' h9)
        (fun A' s H c code fp pn hr' => (okE elt elt' ⟨false, false, false, scope⟩ _ T noW h10 (C.gen hr' s H scope c code fp pn) O).1)
        (genFold_not h5)
      rw [own_snd] at this
      exact pair hK this rfl
    · cases h
  · cases h
termination_by sizeOf e
theorem okEs (es : Es) (as : List Expr) (q : KC) (X : Cx) (T : Tb) (W : WX) (h : ckEs tb N q es as = true) (C : Ctx X T W N q.sc lv q.mkb q.top q.tabd) (O : TOk T tb gc G lv) : PA X as (rdA T W (evs gc G es).vals) ∧ as.all notStar = true ∧ (as = [] → ∀ s S, (evs gc G es).vals s S = .ok [] S) := by
  unfold ckEs at h
  split at h
  · exact ⟨s_pa_nil, rfl, fun _ _ _ => rfl⟩
  · rename_i e es a as
    simp only [Bool.and_eq_true] at h
    obtain ⟨⟨h1, h2⟩, h3⟩ := h
    obtain ⟨k1, k2, _⟩ := okEs es as q X T W h3 C O
    exact ⟨s_pa_cons h1 (okE e a q X T W h2 C O).1 k1, by rw [List.all_cons, h1, k2] <;> rfl, fun z => by cases z⟩
  · cases h
termination_by sizeOf es
theorem okB (es : Es) (as : List Expr) (q : KC) (X : Cx) (T : Tb) (W : WX) (h : ckEs tb N q es as = true) (hne : as ≠ []) (C : Ctx X T W N q.sc lv q.mkb q.top q.tabd) (O : TOk T tb gc G lv) (pos : Pos) :
    PW X (.BoolOp .And as pos) (rdT T W (evs gc G es).andT) ∧ PW X (.BoolOp .Or as pos) (rdT T W (evs gc G es).orT) ∧ PE X (.BoolOp .And as pos) (rdE T W (evs gc G es).andV) ∧ PE X (.BoolOp .Or as pos) (rdE T W (evs gc G es).orV) := by
  have hK : X.K = T.K := C.same.K
  unfold ckEs at h
  split at h
  · exact absurd rfl hne
  · rename_i e es a as
    simp only [Bool.and_eq_true] at h
    obtain ⟨⟨h1, h2⟩, h3⟩ := h
    have ha := okE e a q X T W h2 C O
    cases as with
    | nil =>
      cases es with
      | nil => exact ⟨s_and1 ha.2, s_or1 ha.2, PE_bool1 ha.1, PE_bool1 ha.1⟩
      | cons e2 es2 => simp [ckEs] at h3
    | cons a2 as2 =>
      obtain ⟨k1, k2, k3, k4⟩ := okB es (a2 :: as2) q X T W h3 (by simp) C O pos
      cases es with
      | nil => simp [ckEs] at h3
      | cons e2 es2 => exact ⟨s_andT ha.2 k1, s_orT ha.2 k2, s_andV hK ha.1 k3, s_orV hK ha.1 k4⟩
  · cases h
termination_by sizeOf es
theorem okDs (es : Es) (as : List Expr) (q : KC) (X : Cx) (T : Tb) (W : WX) (ks : List Key) (keys : List (Option Expr)) (pos : Pos) (h : ckEs tb N q es as = true) (hk : ckK ks keys = true) (hl : keys.length = as.length) (C : Ctx X T W N q.sc lv q.mkb q.top q.tabd) (O : TOk T tb gc G lv) :
    PPd X T W pos keys as ks (evs gc G es).vals := by
  unfold ckEs at h
  split at h
  · cases keys with
    | nil =>
      cases ks with
      | nil => exact ppd_nil
      | cons q qs => simp [ckK] at hk
    | cons k keys => cases hl
  · rename_i e es a as
    simp only [Bool.and_eq_true] at h
    obtain ⟨⟨h1, h2⟩, h3⟩ := h
    cases keys with
    | nil => cases hl
    | cons k keys =>
      cases ks with
      | nil => simp [ckK] at hk
      | cons y ys =>
        cases k with
        | none => simp [ckK] at hk
        | some k =>
          simp only [ckK, Bool.and_eq_true] at hk
          exact ppd_cons (pe_key hk.1) (fun p => (okE e a q X (T.at (p :: T.hid)) W h2 (C.hide _) (O.at_ _)).1) (okDs es as q X T W ys keys pos h3 hk.2 (by simpa using hl) C O)
  · cases h
termination_by sizeOf es
theorem okKw (es : Es) (kws : List Keyword) (q : KC) (X : Cx) (T : Tb) (W : WX) (h : ckKw tb N q es kws = true) (C : Ctx X T W N q.sc lv q.mkb q.top q.tabd) (O : TOk T tb gc G lv) : PK X kws (rdA T W (evs gc G es).vals) := by
  unfold ckKw at h
  split at h
  · exact s_pk_nil
  · rename_i e es n a p kws
    simp only [Bool.and_eq_true] at h
    exact s_pk_cons (okE e a q X T W h.1 C O).1 (okKw es kws q X T W h.2 C O)
  · cases h
termination_by sizeOf es
theorem okO (eo : Eo) (lo : Option Expr) (q : KC) (X : Cx) (T : Tb) (W : WX) (h : ckO tb N q eo lo = true) (C : Ctx X T W N q.sc lv q.mkb q.top q.tabd) (O : TOk T tb gc G lv) : PO X lo (rdO T W (evo gc G eo)) := by
  unfold ckO at h
  split at h
  · exact s_po_none
  · rename_i e a
    exact s_po_some (okE e a q X T W h C O).1
  · cases h
termination_by sizeOf eo
theorem okIf (eo : Eo) (ifs : List Expr) (q : KC) (X : Cx) (T : Tb) (h : ckIf tb N q eo ifs = true) (C : Ctx X T noW N q.sc lv q.mkb q.top q.tabd) (O : TOk T tb gc G lv) : PTs X ifs (rdTx T noW (evc gc G eo)) := by
  unfold ckIf at h
  split at h
  · exact pts_ex0
  · rename_i e a
    exact pts_ex1 fun p => (okE e a q X (T.at (p :: T.hid)) noW h (C.hide _) (O.at_ _)).2
  · cases h
termination_by sizeOf eo
theorem okI (it : It) (a : Expr) (q : KC) (X : Cx) (T : Tb) (W : WX) (h : ckI tb N q it a = true) (C : Ctx X T W N q.sc lv q.mkb q.top q.tabd) (O : TOk T tb gc G lv) (tg : Expr) : PI X tg a (rdI T W (evi gc G it)) := by
  have hK : X.K = T.K := C.same.K
  have hs : X.env.scope = q.sc := C.scope
  have blt : ∀ x, decide (x ∈ blts) = true → X.mg x = none := fun x hx => by rw [C.same.mg]; exact O.blt x (of_decide_eq_true hx)
  unfold ckI at h
  split at h
  · rename_i e0
    exact si_e hK (okE e0 a q X T W h C O).1
  · rename_i a x p1 a' p2
    simp only [Bool.and_eq_true, decide_eq_true_eq] at h
    obtain ⟨⟨⟨rfl, h1⟩, h2⟩, h3⟩ := h
    exact si_rng1 h2 (gl_of hs h1) (blt _ (by decide +kernel)) (okE a a' q X T W h3 C O).1
  · rename_i a b x p1 a' b' p2
    simp only [Bool.and_eq_true, decide_eq_true_eq] at h
    obtain ⟨⟨⟨⟨⟨rfl, h1⟩, h2⟩, h3⟩, h4⟩, h5⟩ := h
    exact si_rng2 h2 h3 (gl_of hs h1) (blt _ (by decide +kernel)) (okE a a' q X T W h4 C O).1 (okE b b' q X T W h5 C O).1
  · cases h
termination_by sizeOf it
end
end
end TK
end
section
set_option autoImplicit false
set_option linter.all false
set_option maxRecDepth 100000
set_option maxHeartbeats 8000000
namespace TK
open PySem L2 PySem.Spec PyProof.Rows

/-! ### statements -/
def notComp : Expr → Bool
  | .ListComp _ _ _ _ => false
  | .SetComp _ _ _ _ => false
  | .DictComp _ _ _ _ _ => false
  | _ => true
theorem sw_not {a : Expr} {t : Option Expr} {l : Nat} {env : PySem.Env} (h : notComp a = true) : swapsWith a t l env = pure false := by
  cases a <;> first | rfl | cases h
theorem sw_sub {a o i : Expr} {p : Pos} {l : Nat} {env : PySem.Env} : swapsWith a (some (.Subscript o i p)) l env = pure false := by
  cases a <;> rfl
theorem sw_att {a o : Expr} {f : Str} {p : Pos} {l : Nat} {env : PySem.Env} : swapsWith a (some (.Attribute o f p)) l env = pure false := by
  cases a <;> rfl
theorem sw_tup {a : Expr} {es : List Expr} {k : Nat} {p : Pos} {l : Nat} {env : PySem.Env} : swapsWith a (some (.Tuple es k p)) l env = pure false := by
  cases a <;> rfl
def notTup : Expr → Bool
  | .Tuple _ _ _ => false
  | _ => true
theorem swp_not {a : Expr} {es : List Expr} {k : Nat} {p : Pos} {env : PySem.Env} (h : notTup a = true) : swappedStores [.Tuple es k p] a env = pure none := by
  cases a <;> first | rfl | cases h
/-- the value of a comprehension is stored within its own loop -/
def swB (sc : Scope) (x : Str) (p : Pos) (scope : Scope) (pos : Pos) : Bool := isKind sc x .local && (p.line == pos.line) && !(scope.names.any fun (n, k) => n == x && (k == .local || k == .cell))
section
variable {X : Cx} {T : Tb} {W : WX} {elt iter tg : Expr} {ifs : List Expr} {tg' : Tg} {fi : TDi} {fe : Vs → Sx → TK.R D} {ft : Vs → Sx → TK.R Bool} {scope : Scope} {own : List (Str × Nat)} {tr : Bool} {pos spos py : Pos}
theorem st_setLc {k : Nat} {y : Str} (hw : Flat W) (hc : X.calm = true) (hN : X.N.Nodup) (hy : X.N[k]? = some y) (hyl : X.env.scope.names.lookup y = some .local) (hsw : swapsWith (.ListComp elt [⟨tg, iter, ifs, 0⟩] scope pos) (some (.Name y py)) spos.line X.env = pure true)
    (hi : PI X tg iter (rdI T W fi)) (ok : BlkOk X.N X.env.scope scope own) (hv : ∀ i ∈ tg'.slots, i ∈ own.map (·.2)) (hset : notSet iter = true)
    (hg : ∀ (s : Shared) (H : Hp) (C : Addr) (cl : List (Str × Addr)) (fp : List Addr) (p : Addr), PG (X.blk s H scope (compEnvC scope cl C X.env) fp) tg (rdG (T.hide p) tg'))
    (ht : ∀ (s : Shared) (H : Hp) (C : Addr) (cl : List (Str × Addr)) (fp : List Addr), PTs (X.blk s H scope (compEnvC scope cl C X.env) fp) ifs (rdTx T noW ft))
    (he : ∀ (s : Shared) (H : Hp) (C : Addr) (cl : List (Str × Addr)) (fp : List Addr) (p : Addr), PE (X.blk s H scope (compEnvC scope cl C X.env) fp) elt (rdE (T.hide p) noW fe)) :
    PS X (.Assign [.Name y py] (.ListComp elt [⟨tg, iter, ifs, 0⟩] scope pos) spos) (rdS T W fun s S => ((fi s S).bind fun xs S => (lcL tg' ft fe xs.2 (wipeV s (own.map (·.2))) xs.1 [] S).nox.bind fun ys S => newL tr ys S).bind fun d S => .ok (.nx (s.set k (some d))) S) :=
  PS_imp (ps_setLc hc hN hy hyl hsw hi ok (fun s H C cl fp => pg_ex (hg s H C cl fp)) ht (fun s H C cl fp => pe_ex (he s H C cl fp)) (fold_not hset)) fun D σ H ⟨s, S, m, hs, hS, h⟩ =>
    rd_lc (W := W) (tr := tr) (Q := fun v H1 => D.nx (σ.set k (some v)) H1) hv ⟨s, S, m, hs, hS, (h.bind.names hw).mono fun d S1 H1 m1 L1 R1 q v rv => q H1 m1 .refl R1 _ ((hs.mono L1).set k rv)⟩
end
section
variable (tb : TC)
mutual
def ckS (N : List Str) : KC → Sm → Stmt → Bool
  | q, .set i e, .Assign [.Name x p] a _ => decide (N[i]? = some x) && isTgt q.top q.sc x && ckE tb N q e a && (notComp a || (match a with
    | .ListComp _ _ scope pos => (match q.sc.kind with | .function => true | _ => false) && swB q.sc x p scope pos
    | _ => false))
  | q, .unp tg e, .Assign [.Tuple es k p] a _ => ckG q.top N q.sc tg (.Tuple es k p) && ckE tb N q e a && notTup a
  | q, .seti a i e, .Assign [.Subscript a' i' _] v _ => notSlice i' && ckE tb N q e v && ckE tb N q a a' && ckE tb N q i i'
  | q, .setf c a f e, .Assign [.Attribute a' f' _] v _ => decide (f' = f) && decide ((c, f) ∈ tb.flds) && ckE tb N q e v && ckE tb N q a a'
  | q, .aug i e, .AugAssign (.Name x _) .Add a _ => decide (N[i]? = some x) && isTgt q.top q.sc x && ckE tb N q e a
  | q, .ite t a b, .If t' a' b' _ => ckE tb N q t t' && ckSs N q a a' && ckSs N q b b'
  | q, .for_ tg it b, .For tg' it' b' [] _ => ckI tb N q it it' && ckG q.top N q.sc tg tg' && notSet it' && ckSs N q b b'
  | q, .whl _ t b, .While t' b' [] _ => ckE tb N q t t' && ckSs N q b b'
  | q, .ret e, .Return (some a) _ => ckE tb N q e a
  | q, .retN, .Return none _ => true
  | q, .ex e, .Expr a _ => ckE tb N q e a && notComp a
  | q, .brk, .Break _ => true
  | q, .pass, .Pass _ => true
  | q, .try_ _ _ b _, .Try b' hs [] [] _ => ckSs N q b b' && !hs.isEmpty
  | q, .never, _ => true
  | _, _, _ => false
def ckSs (N : List Str) : KC → Sms → List Stmt → Bool
  | q, .nil, [] => true
  | q, .cons s r, st :: sts => ckS N q s st && ckSs N q r sts
  | _, _, _ => false
end
end
/-- where a statement stands -/
structure CtxS (X : Cx) (T : Tb) (W : WX) (N : List Str) (sc : Scope) (lv : Nat) (mkb top tabd : Bool) : Prop extends Ctx X T W N sc lv mkb top tabd where
  own : PassesOwn (model X.prog X.w) X.A X.env X.xe
theorem CtxS.nox {X : Cx} {T : Tb} {W : WX} {N : List Str} {sc : Scope} {lv : Nat} {mkb top tabd : Bool} (C : CtxS X T W N sc lv mkb top tabd) : CtxS X.nox T noW N sc lv mkb top tabd := ⟨C.toCtx.nox, PassesOwn.never⟩
section
variable {tb : TC} {gc : Nat → D} {G : Gm} {lv : Nat} {N : List Str}
theorem ck_lc {q : KC} {e : E} {elt' : Expr} {gens : List Comprehension} {scope : Scope} {pos : Pos} (h : ckE tb N q e (.ListComp elt' gens scope pos) = true) : ∃ tr tg it cond elt vs tg' iter' ifs', e = .lc tr tg it cond elt vs ∧ gens = [⟨tg', iter', ifs', 0⟩] ∧
    ckI tb N q it iter' = true ∧ blkC N q.sc scope (ownOf N vs) = true ∧ (∀ i ∈ tg.slots, i ∈ vs) ∧ notSet iter' = true ∧ ckG false N (relS scope q.sc) tg tg' = true ∧ ckIf tb N ⟨q.mkb, false, false, relS scope q.sc⟩ cond ifs' = true ∧ ckE tb N ⟨q.mkb, false, false, relS scope q.sc⟩ elt elt' = true := by
  unfold ckE at h
  split at h <;> first | (cases h; done) | skip
  all_goals try (rename_i heq; cases heq; done)
  rename_i heq
  cases heq
  split at h
  · simp only [Bool.and_eq_true, decide_eq_true_eq] at h
    obtain ⟨⟨⟨⟨⟨⟨k1, k2⟩, k3⟩, k4⟩, k5⟩, k6⟩, k7⟩ := h
    exact ⟨_, _, _, _, _, _, _, _, _, rfl, rfl, k1, k2, k3, k4, k5, k6, k7⟩
  · cases h
theorem ok_nox {T : Tb} {E : XK} {H : Hp} {m : List Addr} {P : Fl → Sx → Hp → List Addr → Prop} {r : TK.R Fl} (h : Ok T E H m P (match r with | .ok f S => .ok f S | _ => .bad)) : Ok T (fun _ _ _ => False) H m P r := by
  cases r with
  | ok f S => exact h
  | exc c v S => exact h.elim
  | bad => exact h.elim
mutual
theorem okS (e : Sm) (st : Stmt) (q : KC) (X : Cx) (T : Tb) (W : WX) (h : ckS tb N q e st = true) (C : CtxS X T W N q.sc lv q.mkb q.top q.tabd) (O : TOk T tb gc G lv) : PS X st (rdS T W (es gc G e)) := by
  have hK : X.K = T.K := C.same.K
  have hs : X.env.scope = q.sc := C.scope
  have nd : X.N.Nodup := by rw [C.names]; exact C.nd
  unfold ckS at h
  split at h
  · -- set
    rename_i i e x p a spos
    simp only [Bool.and_eq_true, decide_eq_true_eq, Bool.or_eq_true] at h
    obtain ⟨⟨⟨h1, h2⟩, h3⟩, h4⟩ := h
    obtain ⟨l1, l2⟩ := loc_of hs C.fnd h2
    rcases h4 with h4 | h4
    · exact st_set C.fl nd (by rw [C.names]; exact h1) l1 l2 (okE e a q X T W h3 C.toCtx O).1 (sw_not h4)
    · split at h4
      · rename_i elt' gens scope pos
        simp only [Bool.and_eq_true] at h4
        obtain ⟨hk, hsw⟩ := h4
        unfold swB at hsw
        simp only [Bool.and_eq_true, Bool.not_eq_true'] at hsw
        obtain ⟨⟨w1, w2⟩, w3⟩ := hsw
        have hkind : X.env.scope.kind = .function := by
          rw [hs]
          split at hk
          · assumption
          · cases hk
        have hyl : X.env.scope.names.lookup x = some .local := by rw [hs]; exact kind_of w1
        have hsw2 : ∀ gs, swapsWith (.ListComp elt' gs scope pos) (some (.Name x p)) spos.line X.env = pure true := fun gs => sw_true hkind hyl w2 w3
        obtain ⟨tr, tg, it, cond, elt, vs, tg', iter', ifs', rfl, rfl, k1, k2, k3, k4, k5, k6, k7⟩ := ck_lc h3
        have := st_setLc (X := X) (T := T) (W := W) (elt := elt') (tg := tg') (iter := iter') (ifs := ifs') (scope := scope) (own := ownOf N vs) (tr := tr) (tg' := tg) (fi := evi gc G it) (fe := (ev gc G elt).val) (ft := evc gc G cond) (pos := pos) (spos := spos) (py := p) (k := i) (y := x) C.fl C.calm nd (by rw [C.names]; exact h1) hyl (hsw2 _)
            (okI it iter' q X T W k1 C.toCtx O tg') (by rw [C.names, hs]; exact blkOk_by k2) (by rw [own_snd]; exact k3) k4
            (fun s H c cl fp p => okG (T := T.at (p :: T.hid)) (C.toCtx.blk s H scope c cl fp).names C.nd (C.toCtx.blk s H scope c cl fp).scope (C.toCtx.blk s H scope c cl fp).fnd hK C.calm tg tg' k5)
            (fun s H c cl fp => okIf cond ifs' ⟨q.mkb, false, false, relS scope q.sc⟩ _ T k6 (C.toCtx.blk s H scope c cl fp) O)
            (fun s H c cl fp p => (okE elt elt' ⟨q.mkb, false, false, relS scope q.sc⟩ _ (T.at (p :: T.hid)) noW k7 ((C.toCtx.blk s H scope c cl fp).hide _) (O.at_ _)).1)
        rw [own_snd] at this
        exact this
      · cases h4
  · -- unp
    rename_i tg e es k p a spos
    simp only [Bool.and_eq_true] at h
    obtain ⟨⟨h1, h2⟩, h3⟩ := h
    exact st_unp C.fl (okG C.names C.nd hs C.fnd hK C.calm tg _ h1) (okE e a q X T W h2 C.toCtx O).1 (show swapsWith a (some (.Tuple es k p)) spos.line X.env = pure false from sw_tup) (swp_not h3) rfl
  · -- seti
    rename_i a i e a' i' p v spos
    simp only [Bool.and_eq_true] at h
    obtain ⟨⟨⟨h1, h2⟩, h3⟩, h4⟩ := h
    exact st_seti C.fl h1 (okE e v q X T W h2 C.toCtx O).1 (okE a a' q X T W h3 C.toCtx O).1 (okE i i' q X T W h4 C.toCtx O).1 (show swapsWith v (some (.Subscript a' i' p)) spos.line X.env = pure false from sw_sub)
  · -- setf
    rename_i c a f e a' f' p v spos
    simp only [Bool.and_eq_true, decide_eq_true_eq] at h
    obtain ⟨⟨⟨rfl, h1⟩, h2⟩, h3⟩ := h
    obtain ⟨k1, k2⟩ := O.flds c _ h1
    exact st_setf C.fl hK k2 k1 (okE e v q X T W h2 C.toCtx O).1 (okE a a' q X T W h3 C.toCtx O).1 sw_att
  · -- aug
    rename_i i e x p a spos
    simp only [Bool.and_eq_true, decide_eq_true_eq] at h
    obtain ⟨⟨h1, h2⟩, h3⟩ := h
    obtain ⟨l1, l2⟩ := loc_of hs C.fnd h2
    exact st_aug C.fl nd (by rw [C.names]; exact h1) l1 l2 (okE e a q X T W h3 C.toCtx O).1
  · -- ite
    rename_i t a b t' a' b' p
    simp only [Bool.and_eq_true] at h
    exact st_if C.fl (okE t t' q X T W h.1.1 C.toCtx O).2 (okSs a a' q X T W h.1.2 C O) (okSs b b' q X T W h.2 C O)
  · -- for
    rename_i tg it b tg' it' b' p
    simp only [Bool.and_eq_true] at h
    obtain ⟨⟨⟨h1, h2⟩, h3⟩, h4⟩ := h
    exact st_for C.fl C.own C.calm (okI it it' q X T W h1 C.toCtx O tg') (okG C.names C.nd hs C.fnd hK C.calm tg tg' h2) (okSs b b' q X T W h4 C O) h3
  · -- while
    rename_i n t b t' b' p
    simp only [Bool.and_eq_true] at h
    exact st_whl C.fl C.own (okE t t' q X T W h.1 C.toCtx O).2 (okSs b b' q X T W h.2 C O) n
  · -- ret
    rename_i e a p
    exact st_ret C.fl (okE e a q X T W h C.toCtx O).1
  · exact st_retN
  · -- ex
    rename_i e a p
    simp only [Bool.and_eq_true] at h
    exact st_ex C.fl (okE e a q X T W h.1 C.toCtx O).1 (sw_not h.2)
  · exact st_brk
  · exact st_pass
  · -- try
    rename_i c i b hb b' hs' p
    simp only [Bool.and_eq_true] at h
    cases hs' with
    | nil => exact absurd h.2 (by simp)
    | cons h0 hs' =>
      exact PS_imp (ps_try_thru0 (okSs b b' q X.nox T noW h.1 C.nox O)) fun D σ H ⟨s, S, m, hs, hS, h⟩ => ⟨s, S, m, hs, hS, ok_nox h⟩
  · exact st_never
  · cases h
termination_by sizeOf e
theorem okSs (e : Sms) (st : List Stmt) (q : KC) (X : Cx) (T : Tb) (W : WX) (h : ckSs tb N q e st = true) (C : CtxS X T W N q.sc lv q.mkb q.top q.tabd) (O : TOk T tb gc G lv) : PSs X st (rdS T W (ess gc G e)) := by
  unfold ckSs at h
  split at h
  · exact st_nil
  · rename_i s r st sts
    simp only [Bool.and_eq_true] at h
    exact st_cons (okS s st q X T W h.1 C O) (okSs r sts q X T W h.2 C O)
  · cases h
termination_by sizeOf e
end
end
end TK
end
section
set_option autoImplicit false
set_option linter.all false
set_option maxRecDepth 100000
set_option maxHeartbeats 4000000
namespace TK
open PySem L2 PySem.Spec PyProof.Rows

/-! ### the defs, each against its row -/
structure Row where
  ps : List Str
  N : List Str
  scope : Scope
  body : List Stmt
  tabd : Bool
def ckD (tb : TC) (d : Row) (f : Fn) : Bool := C8.scC d.N d.ps d.scope && decide (f.np = d.ps.length) && decide (f.nv = d.N.length) && ckSs tb d.N ⟨true, true, d.tabd, d.scope⟩ f.body d.body
def ckAll (tb : TC) : List Row → List Fn → Bool
  | [], [] => true
  | d :: ds, f :: fs => ckD tb d f && ckAll tb ds fs
  | _, _ => false
theorem ckAll_at {tb : TC} : ∀ {rows : List Row} {fs : List Fn} {k : Nat} {d : Row}, ckAll tb rows fs = true → rows[k]? = some d → ∃ f, fs[k]? = some f ∧ ckD tb d f = true
  | [], _, _, _, _, h => by simp at h
  | _ :: _, [], _, _, h, _ => by simp [ckAll] at h
  | d :: ds, f :: fs, 0, e, h, h2 => by
    simp only [ckAll, Bool.and_eq_true] at h
    simp at h2
    subst h2
    exact ⟨f, by simp, h.1⟩
  | d :: ds, f :: fs, k + 1, e, h, h2 => by
    simp only [ckAll, Bool.and_eq_true] at h
    obtain ⟨f', h3, h4⟩ := ckAll_at h.2 (by simpa using h2)
    exact ⟨f', by simpa using h3, h4⟩
structure FD (T : Tb) (k : Nat) (d : Row) (fd : FuncData) : Prop where
  fn : ∃ x qual params dvs kws, FunD T.K x qual params d.body d.scope dvs kws (T.F k) fd
  tab : d.tabd = true → ∀ c, fd.code = .ref c → ∃ P, GxR.TabB T.base T.mg c P ∧ P ∈ T.tabs
abbrev FnK (T : Tb) (lv : Nat) (k : Nat) (d : Row) (fd : FuncData) (g : List D → Sx → TK.R D) : Prop := ∀ hs, FnOk T.P T.w T.K T.mg T.base (L2.CX T.P T.w) lv (T.F k) fd d.ps (spOf (T.at hs) d.ps.length g)
theorem arity_run {gc : Nat → D} {fs : List Fn} {k : Nat} {f : Fn} (hf : fs[k]? = some f) : ∀ n, Arity f.np (runF gc fs n k)
  | 0 => fun _ _ _ => rfl
  | n + 1 => fun ds S h => by
    show (match fs[k]? with | some f => runB gc (runF gc fs n) f ds S | none => .bad) = .bad
    rw [hf]
    show runB gc (runF gc fs n) f ds S = .bad
    unfold runB
    rw [if_neg h]
theorem takes_cx {CXw : Unit} {P : Program} {w : World} {K : PySem.W.Frag} {mg : Str → Option Value} {base : Heap} {N : List Str} {qual : Str} {scope : Scope} {f : Addr} {cd : Value} {A : Around} {outer : List PySem.Env} {s : Shared} {H : Hp} {E : XK} :
    Takes (cxOf (L2.CX P w) P w K mg base N qual scope f cd A outer s H E) (fun c d _ H => E c d H) := takes_of rfl rfl rfl rfl
theorem run_ok {T : Tb} {tb : TC} {gc : Nat → D} {rows : List Row} {fs : List Fn} {fdOf : Nat → FuncData} (ck : ckAll tb rows fs = true) (F : ∀ k d, rows[k]? = some d → FD T k d (fdOf k))
    (O : ∀ n, (∀ k d, rows[k]? = some d → FnK T (2 * n) k d (fdOf k) (runF gc fs n k)) → TOk T tb gc (runF gc fs n) (2 * n)) : ∀ n k d, rows[k]? = some d → FnK T (2 * n) k d (fdOf k) (runF gc fs n k) := by
  intro n
  induction n with
  | zero => exact fun k d hd hs => ⟨fun vs H Q E h => h.1, fun A outer s H args us vs Q E hr e0 hb r hsp => by
      obtain ⟨_, ds, S, m, _, _, h⟩ := hsp
      exact h.elim⟩
  | succ n ih =>
    intro k d hd hs
    obtain ⟨f, hf, hc⟩ := ckAll_at ck hd
    unfold ckD at hc
    simp only [Bool.and_eq_true, decide_eq_true_eq] at hc
    obtain ⟨⟨⟨c1, c2⟩, c3⟩, c4⟩ := hc
    have hF := F k d hd
    obtain ⟨x, qual, params, dvs, kws, hfn⟩ := hF.fn
    have tabs := hF.tab
    obtain ⟨oc, od, dV, kV, doc, pm, an, cdv, ct, osl, efd, lk, hcd, _, _⟩ := hfn.ex
    rw [efd] at tabs lk ⊢
    refine fn_of (k := 2 * n + 1) lk hcd (C8.fnScope_by c1) (fun vs H Q E h => h.1) fun A outer s H vs Q E hr hsp => ?_
    obtain ⟨hl, ds, S, m, hds, hS, h⟩ := hsp
    have C : CtxS (cxOf (L2.CX T.P T.w) T.P T.w T.K T.mg T.base d.N qual d.scope (T.F k) cdv A outer s H E) (T.at hs) (fun c d _ H => E c d H) d.N d.scope (2 * n) true true d.tabd :=
      ⟨⟨⟨rfl, rfl, rfl, rfl, rfl⟩, rfl, (C8.fnScope_by c1).nd, rfl, rfl, hr, takes_of rfl rfl rfl rfl, fun _ _ _ _ _ h => h, fun _ _ => rfl, fun ht => by
        obtain ⟨c, rfl⟩ := He.codeIn_ref hcd
        obtain ⟨P, t1, t2⟩ := tabs ht c rfl
        exact ⟨c, P, rfl, t1, t2⟩⟩, passes_of rfl⟩
    refine ⟨_, okSs f.body d.body ⟨true, true, d.tabd, d.scope⟩ _ (T.at hs) _ c4 C ((O n ih).at_ hs), startV d.N.length ds, S, m, RelV.start d.N hds, hS, ?_⟩
    have h : Ok (T.at hs) E H m (PV (T.at hs) Q) (match fs[k]? with | some f => runB gc (runF gc fs n) f ds S | none => .bad) := h
    rw [hf] at h
    have h : Ok (T.at hs) E H m (PV (T.at hs) Q) (runB gc (runF gc fs n) f ds S) := h
    unfold runB at h
    rw [if_pos (by rw [c2, hds.len]; exact hl), c3] at h
    cases e : ess gc (runF gc fs n) f.body (startV d.N.length ds) S with
    | ok fl S' =>
      rw [e] at h
      intro H' m' L R
      cases fl with
      | nx s' => exact fun σ _ => h H' m' L R _ rfl
      | rt v => exact h H' m' L R
      | bk s' => exact h.elim
      | ct s' => exact h.elim
    | exc c v S' =>
      rw [e] at h
      exact h
    | bad =>
      rw [e] at h
      exact h.elim
end TK
end
section
set_option autoImplicit false
set_option linter.all false
set_option maxRecDepth 100000
set_option maxHeartbeats 4000000
namespace TK
open PySem L2 PySem.Spec PyProof.Rows

/-! ### a law's defs, classes, names -/
structure RowD where
  d : He.DefD
  ps : List Str
  N : List Str
  tabd : Bool
def RowD.row (r : RowD) : Row := ⟨r.ps, r.N, r.d.scope, r.d.body, r.tabd⟩
structure LawD where
  rows : List RowD
  tb : TC
  /-- the classes' names -/
  cn : List Str
  /-- whole numbers that the module's names stand for -/
  nums : List (Str × Int)
  dep : Nat
  /-- more facts -/
  ex : PySem.W.Frag → Bool
namespace LawD
variable (L : LawD)
def tf : List He.Defn := (L.rows.filter (·.tabd)).map (·.d.at_)
def fa : List He.Fa := L.tb.fns.map (fun q => .glo q.1) ++ (L.cn.map (fun x => .glo x) ++ (L.cn.map (fun x => .cls x) ++ (L.tb.cls.map (fun q => .mkr q.1) ++ (L.tb.flds.map (fun q => .noat (L.cn.getD q.1 "") q.2) ++ (L.tb.mts.map (fun q => .meth (L.cn.getD q.1 "") q.2.1) ++ (L.nums.map (fun q => .int q.1 q.2) ++ blts.map (fun x => .free x)))))))
def fn : List He.DefD := L.rows.map (·.d)
def gc (j : Nat) : D := .int (L.nums.getD j ("", 0)).2
abbrev hk : PySem.W.Hook := He.hookX L.dep L.fa L.fn [] L.tf L.ex
def ob (s : PySem.W.SharedT) : He.AlX := He.obsX L.dep L.fa L.fn [] L.tf L.ex (HandSHeadRun.getT s)
theorem ob_eq (s : PySem.W.SharedT) : L.ob s = L.hk.obs s.abs := He.obsX_eq (HandSHeadRun.getT_eq s)
/-- the tables name what stands there -/
def ok : Bool :=
  (L.tb.fns.all fun q => match L.rows[q.2]? with | some r => decide (r.d.at_ = (q.1, none)) | none => false) &&
  (L.tb.cls.all fun q => decide (L.cn[q.2.1]? = some q.1) && (match L.rows[q.2.2]? with | some r => decide (r.d.at_ = (q.1, some ("__init__" : Str))) | none => false)) &&
  (L.tb.mts.all fun q => decide ((L.cn[q.1]?).isSome = true) && (match L.rows[q.2.2]? with | some r => decide (r.d.at_ = (L.cn.getD q.1 "", some q.2.1)) | none => false)) &&
  (L.tb.flds.all fun q => decide ((L.cn[q.1]?).isSome = true)) &&
  (L.tb.cons.all fun q => decide ((L.nums[q.2]?).map (·.1) = some q.1)) && decide (L.tb.pos.all fun k => decide (k < L.rows.length))
def T (P : Program) (w : World) (K : PySem.W.Frag) (mg : Str → Option Value) (base : Heap) : Tb :=
  ⟨P, w, K, mg, base, fun c => He.ga K (L.cn.getD c ""), fun k => He.fAd K (match L.rows[k]? with | some r => r.d.at_ | none => (("" : Str), (none : Option Str))), [], (L.tf.map (He.cT K)).map (·.2)⟩
end LawD
theorem mem_look {α : Type} : ∀ {l : List (Str × α)} {x : Str} {v : α}, l.lookup x = some v → (x, v) ∈ l
  | [], _, _, h => by simp at h
  | (y, u) :: l, x, v, h => by
    rw [List.lookup_cons] at h
    split at h
    · rename_i e
      cases h
      rw [beq_iff_eq.mp e]
      exact List.mem_cons_self
    · exact List.mem_cons_of_mem _ (mem_look h)
/-- positional binding -/
def BindP (d : He.DefD) (ps : List Str) : Prop := d.dfl = [] ∧ ∀ (kV doc pm : Value) (an : Option Addr) (cdv ct : Value) (us : List Value), us.length = ps.length → bindArgs (PySem.W.fnOf d.name d.qual d.params d.body d.scope .none kV doc pm an cdv ct) ⟨us, []⟩ = pure (ps.zip us)
section
variable {L : LawD} {P : Program} {w : World} {K : PySem.W.Frag} {mg : Str → Option Value} {base h : Heap}
theorem says_facts (c : He.SaysX L.fa L.fn [] L.tf L.ex w h K) {f : He.Fa} (hf : f ∈ L.fa) : f.ok K = true := He.SaysD.facts (He.SaysT.d c.t) hf
theorem tok_of (ok : L.ok = true) (KX : K.In h) (G : h.Ns mainGlobals mg) (c : He.SaysX L.fa L.fn [] L.tf L.ex w h K) {fdOf : Nat → FuncData} (hfd : ∀ k r, L.rows[k]? = some r → FunD K r.d.name r.d.qual r.d.params r.d.body r.d.scope (r.d.dvs K) (r.d.kws K) (He.fAd K r.d.at_) (fdOf k))
    (hb : ∀ k, k ∈ L.tb.pos → ∀ r, L.rows[k]? = some r → BindP r.d r.ps) {lv : Nat} {Gm' : Gm} (har : ∀ k r, L.rows[k]? = some r → Arity r.ps.length (Gm' k)) (hF : ∀ k r, L.rows[k]? = some r → FnK (L.T P w K mg base) lv k r.row (fdOf k) (Gm' k))
    (hkw : ∀ k kw dfl, (k, kw, dfl) ∈ L.tb.kws → ∃ r, L.rows[k]? = some r ∧ ∃ mvs gg, (∀ hs H m, RepL ((L.T P w K mg base).at hs) H m dfl mvs) ∧ KBn K (fdOf k) r.ps 1 kw gg (fun vs zs => vs ++ (zs ++ mvs))) :
    TOk (L.T P w K mg base) L.tb L.gc Gm' lv := by
  unfold LawD.ok at ok
  simp only [Bool.and_eq_true, List.all_eq_true, decide_eq_true_eq] at ok
  obtain ⟨⟨⟨⟨⟨o1, o2⟩, o3⟩, o4⟩, o5⟩, o6⟩ := ok
  have inFa : ∀ {f : He.Fa}, f ∈ L.fa → f.ok K = true := fun hf => says_facts c hf
  have at_ : ∀ {k : Nat} {r : RowD}, L.rows[k]? = some r → (L.T P w K mg base).F k = He.fAd K r.d.at_ := fun {k r} e => by
    show He.fAd K (match L.rows[k]? with | some r => r.d.at_ | none => (("" : Str), (none : Option Str))) = _
    rw [e]
  have cls_in : ∀ {j : Nat} {x : Str}, L.cn[j]? = some x → (L.T P w K mg base).C j = He.ga K x ∧ mg x = some (.ref (He.ga K x)) ∧ Cls K (He.ga K x) := fun {j x} e => by
    have hm : x ∈ L.cn := List.mem_of_getElem? e
    refine ⟨?_, He.glo_ok KX G (inFa ?_), He.cls_ok (inFa ?_)⟩
    · show He.ga K (L.cn.getD j "") = _
      rw [List.getD_eq_getElem?_getD, e] <;> rfl
    · unfold LawD.fa
      exact List.mem_append_right _ (List.mem_append_left _ (List.mem_map.mpr ⟨x, hm, rfl⟩))
    · unfold LawD.fa
      exact List.mem_append_right _ (List.mem_append_right _ (List.mem_append_left _ (List.mem_map.mpr ⟨x, hm, rfl⟩)))
  refine ⟨fun x k e => ?_, fun k hk hs => ?_, fun x cc k e => ?_, fun cc x k e => ?_, fun cc f e => ?_, fun k kw dfl e hs => ?_, fun x j e => ?_, fun x hx => ?_⟩
  · have h1 := o1 _ (mem_look e)
    split at h1
    · rename_i r hr
      have hr : L.rows[k]? = some r := hr
      have e1 : r.d.at_ = (x, none) := of_decide_eq_true h1
      have e2 : (L.T P w K mg base).F k = He.ga K x := by rw [at_ hr, e1] <;> rfl
      rw [e2]
      refine ⟨He.glo_ok KX G (inFa ?_), ?_⟩
      · unfold LawD.fa
        exact List.mem_append_left _ (List.mem_map.mpr ⟨(x, k), mem_look e, rfl⟩)
      · have := (hfd k r hr).kp
        rw [e1] at this
        exact this
    · cases h1
  · have h1 := o6 k hk
    obtain ⟨r, hr⟩ : ∃ r, L.rows[k]? = some r := ⟨_, List.getElem?_eq_getElem h1⟩
    obtain ⟨b1, b2⟩ := hb k hk r hr
    have hd := hfd k r hr
    have e0 : r.d.dvs K = [] := by unfold He.DefD.dvs; rw [b1] <;> rfl
    rw [e0] at hd
    exact ⟨fdOf k, r.ps, hF k r hr hs, FunD.bindsN hd b2, har k r hr⟩
  · obtain ⟨h1, h2⟩ := o2 _ (mem_look e)
    obtain ⟨c1, c2, _⟩ := cls_in h1
    split at h2
    · rename_i r hr
      have e1 : r.d.at_ = (x, some ("__init__" : Str)) := of_decide_eq_true h2
      refine ⟨by rw [c1]; exact c2, ?_⟩
      have hm : He.Fa.mkr x ∈ L.fa := by
        unfold LawD.fa
        exact List.mem_append_right _ (List.mem_append_right _ (List.mem_append_right _ (List.mem_append_left _ (List.mem_map.mpr ⟨(x, (cc, k)), mem_look e, rfl⟩))))
      have := He.mkr_ok (inFa hm)
      have e2 : (L.T P w K mg base).F k = He.ma K (He.ga K x) "__init__" := by rw [at_ hr, e1] <;> rfl
      rw [c1, e2]
      exact this
    · cases h2
  · obtain ⟨h1, h2⟩ := o3 _ e
    obtain ⟨y, hy⟩ := Option.isSome_iff_exists.mp h1
    obtain ⟨c1, _, c3⟩ := cls_in hy
    have ey : L.cn.getD cc "" = y := by rw [List.getD_eq_getElem?_getD, hy] <;> rfl
    split at h2
    · rename_i r hr
      have e1 : r.d.at_ = (L.cn.getD cc "", some x) := of_decide_eq_true h2
      have hm : He.Fa.meth (L.cn.getD cc "") x ∈ L.fa := by
        unfold LawD.fa
        exact List.mem_append_right _ (List.mem_append_right _ (List.mem_append_right _ (List.mem_append_right _ (List.mem_append_right _ (List.mem_append_left _ (List.mem_map.mpr ⟨(cc, x, k), e, rfl⟩))))))
      have := He.meth_ok (inFa hm)
      have e2 : (L.T P w K mg base).F k = He.ma K (He.ga K (L.cn.getD cc "")) x := by rw [at_ hr, e1] <;> rfl
      rw [ey] at this e2
      rw [c1, e2]
      exact ⟨this, c3⟩
    · cases h2
  · obtain ⟨y, hy⟩ := Option.isSome_iff_exists.mp (o4 _ e)
    obtain ⟨c1, _, c3⟩ := cls_in hy
    have ey : L.cn.getD cc "" = y := by rw [List.getD_eq_getElem?_getD, hy] <;> rfl
    have hm : He.Fa.noat (L.cn.getD cc "") f ∈ L.fa := by
      unfold LawD.fa
      exact List.mem_append_right _ (List.mem_append_right _ (List.mem_append_right _ (List.mem_append_right _ (List.mem_append_left _ (List.mem_map.mpr ⟨(cc, f), e, rfl⟩)))))
    have := He.noat_ok (inFa hm)
    rw [ey] at this
    rw [c1]
    exact ⟨this, c3⟩
  · obtain ⟨r, hr, mvs, gg, k1, k2⟩ := hkw k kw dfl e
    exact ⟨fdOf k, r.ps, mvs, gg, hF k r hr hs, k1 hs, k2, har k r hr⟩
  · obtain ⟨q, hq, eq⟩ := Option.map_eq_some_iff.mp (o5 _ (mem_look e))
    obtain ⟨y, i⟩ := q
    have ex : y = x := eq
    subst ex
    have hq : L.nums[j]? = some (y, i) := hq
    have hm : He.Fa.int y i ∈ L.fa := by
      unfold LawD.fa
      exact List.mem_append_right _ (List.mem_append_right _ (List.mem_append_right _ (List.mem_append_right _ (List.mem_append_right _ (List.mem_append_right _ (List.mem_append_left _ (List.mem_map.mpr ⟨(y, i), List.mem_of_getElem? hq, rfl⟩)))))))
    obtain ⟨t, ht⟩ := He.int_ok KX G (inFa hm)
    refine ⟨_, .int i, ht, ⟨t, rfl⟩, fun hs H m => ?_⟩
    show RepV _ H m (.int (L.nums.getD j ("", 0)).2) (.int i)
    rw [List.getD_eq_getElem?_getD, hq] <;> rfl
  · refine He.free_ok KX G (inFa ?_)
    unfold LawD.fa
    exact List.mem_append_right _ (List.mem_append_right _ (List.mem_append_right _ (List.mem_append_right _ (List.mem_append_right _ (List.mem_append_right _ (List.mem_append_right _ (List.mem_map.mpr ⟨x, hx, rfl⟩)))))))
/-- the law's promise at the head's heap -/
theorem law_of {l : PySem.W.OpenLaw} {fs : List Fn} {n N : Nat} {kl : Nat} {rl : RowD} {fa : Addr} {x : Str} (ok : L.ok = true) (ck : ckAll L.tb (L.rows.map RowD.row) fs = true) (KX : K.In h) (G : h.Ns mainGlobals mg) (c : He.SaysX L.fa L.fn [] L.tf L.ex w h K)
    (hb : ∀ k, k ∈ L.tb.pos → ∀ r, L.rows[k]? = some r → BindP r.d r.ps)
    (hkw : ∀ (fdOf : Nat → FuncData) (base : Heap), (∀ k r, L.rows[k]? = some r → FunD K r.d.name r.d.qual r.d.params r.d.body r.d.scope (r.d.dvs K) (r.d.kws K) (He.fAd K r.d.at_) (fdOf k)) → ∀ k kw dfl, (k, kw, dfl) ∈ L.tb.kws → ∃ r, L.rows[k]? = some r ∧ ∃ mvs gg, (∀ hs H m, RepL ((L.T l.prog w K mg base).at hs) H m dfl mvs) ∧ KBn K (fdOf k) r.ps 1 kw gg (fun vs zs => vs ++ (zs ++ mvs)))
    (hl : L.rows[kl]? = some rl) (hlp : rl.ps = [x]) (hlat : rl.d.at_ = (("law" : Str), (none : Option Str))) (hlb : BindP rl.d rl.ps) (hfa : mg ("law" : Str) = some (.ref fa)) (hfaL : He.Fa.glo "law" ∈ L.fa)
    (math : ∀ ns : List Int, ns.length ≤ N → ∃ S, runF L.gc fs n kl [.scr ns] [] = .ok (.bl true) S) :
    LamX.LawAtS l w K (L2.CX l.prog w) (2 * n) N x mg fa h := by
  have hlen : ∀ (k : Nat) (r : RowD), L.rows[k]? = some r → ∃ f : Fn, fs[k]? = some f ∧ f.np = r.ps.length := fun k r hr => by
    obtain ⟨f, h1, h2⟩ := ckAll_at ck (k := k) (d := r.row) (by rw [List.getElem?_map, hr] <;> rfl)
    unfold ckD at h2
    simp only [Bool.and_eq_true, decide_eq_true_eq] at h2
    exact ⟨f, h1, h2.1.1.2⟩
  have pick : ∀ k : Nat, ∃ fd : FuncData, ∀ r : RowD, L.rows[k]? = some r → FunD K r.d.name r.d.qual r.d.params r.d.body r.d.scope (r.d.dvs K) (r.d.kws K) (He.fAd K r.d.at_) fd := fun k => by
    cases hr : L.rows[k]? with
    | none =>
      obtain ⟨fd, _⟩ := He.SaysD.defs (He.SaysT.d c.t) (d := rl.d) (List.mem_map.mpr ⟨rl, List.mem_of_getElem? hl, rfl⟩)
      exact ⟨fd, fun r e => by cases e⟩
    | some r =>
      obtain ⟨fd, F⟩ := He.SaysD.defs (He.SaysT.d c.t) (d := r.d) (List.mem_map.mpr ⟨r, List.mem_of_getElem? hr, rfl⟩)
      exact ⟨fd, fun r' e => by cases e; exact F⟩
  obtain ⟨fdOf, hfd⟩ := Classical.axiomOfChoice pick
  have efa : fa = He.fAd K rl.d.at_ := by
    have := hfa.symm.trans (He.glo_ok KX G (says_facts c hfaL))
    cases this
    rw [hlat] <;> rfl
  have main : ∀ base : Heap, K.In base → base.Ns mainGlobals mg → (∀ p ∈ L.tf.map (He.cT K), GxR.TabB base mg p.1 p.2) → ∀ (k : Nat) (r : RowD), L.rows[k]? = some r → FnK (L.T l.prog w K mg base) (2 * n) k r.row (fdOf k) (runF L.gc fs n k) := fun base KB GB TB k r hr =>
    run_ok (T := L.T l.prog w K mg base) (tb := L.tb) (gc := L.gc) (rows := L.rows.map RowD.row) (fs := fs) (fdOf := fdOf) ck (fun k d hd => by
      rw [List.getElem?_map] at hd
      obtain ⟨r, hr, rfl⟩ := Option.map_eq_some_iff.mp hd
      have F := hfd k r hr
      have eF : (L.T l.prog w K mg base).F k = He.fAd K r.d.at_ := by
        show He.fAd K (match L.rows[k]? with | some r => r.d.at_ | none => (("" : Str), (none : Option Str))) = _
        rw [hr]
      refine ⟨⟨r.d.name, r.d.qual, r.d.params, r.d.dvs K, r.d.kws K, by rw [eF]; exact F⟩, fun ht cc hcc => ?_⟩
      obtain ⟨oc, od, dV, kV, doc, pm, an, cdv, ct, osl, efd, lk, _, _, _⟩ := F.ex
      have ec : He.codeOf K r.d.at_ = cc := He.codeOf_eq lk hcc
      have hm : He.cT K r.d.at_ ∈ L.tf.map (He.cT K) := List.mem_map.mpr ⟨r.d.at_, List.mem_map.mpr ⟨r, List.mem_filter.mpr ⟨List.mem_of_getElem? hr, ht⟩, rfl⟩, rfl⟩
      refine ⟨(He.cT K r.d.at_).2, ?_, List.mem_map.mpr ⟨_, hm, rfl⟩⟩
      have := TB _ hm
      rw [show (He.cT K r.d.at_).1 = cc from ec] at this
      exact this)
      (fun n hF => tok_of ok KX G c hfd hb (fun k r hr => by
        obtain ⟨f, h1, h2⟩ := hlen k r hr
        rw [← h2]
        exact arity_run h1 n) (fun k r hr => hF k r.row (by rw [List.getElem?_map, hr] <;> rfl)) (hkw fdOf base hfd)) n k r.row (by rw [List.getElem?_map, hr] <;> rfl)
  have hb0 := hlb.2
  refine ⟨fdOf kl, L.tf.map (He.cT K), fun vs H Q E => ∀ b, spOf (L.T l.prog w K mg b) 1 (runF L.gc fs n kl) vs H Q E, ?_, ?_, ?_, ?_, ?_, ?_⟩
  · intro p hp
    obtain ⟨q, hq, rfl⟩ := List.mem_map.mp hp
    exact c.empty q hq
  · intro p hp
    obtain ⟨q, hq, rfl⟩ := List.mem_map.mp hp
    exact c.out q hq
  · intro p hp
    obtain ⟨q, hq, rfl⟩ := List.mem_map.mp hp
    exact PySem.W.codeHd_of_K KX (c.hd q hq)
  · intro s u
    have hd := hfd kl rl hl
    have e0 : rl.d.dvs K = [] := by unfold He.DefD.dvs; rw [hlb.1] <;> rfl
    have e1 : ∀ kws, FunD K rl.d.name rl.d.qual rl.d.params rl.d.body rl.d.scope [] kws (He.fAd K rl.d.at_) (fdOf kl) → BindsTo s (fdOf kl) ⟨[u], []⟩ [(x, u)] := fun kws hd => by
      have := FunD.bindsA (ps := rl.ps) hd hb0 s [u] (by rw [hlp] <;> rfl)
      rw [hlp] at this
      exact this
    rw [e0] at hd
    exact e1 _ hd
  · intro H a ns hN _ hT hS b
    obtain ⟨S, hm⟩ := math ns hN
    refine ⟨rfl, [.scr ns], [], [], ⟨.ref a, [], rfl, ⟨a, rfl, ?_⟩, rfl⟩, ⟨rfl, List.nodup_nil, fun _ z => (by cases z), fun P hP => ?_, fun n a o h1 _ => (by simp at h1)⟩, ?_⟩
    · rcases hS with z | z
      · exact .inl ⟨z, by simp, by intro q; cases q⟩
      · exact .inr (.inr z)
    · obtain ⟨p, hp, rfl⟩ := List.mem_map.mp hP
      exact ⟨by simp, #[], hT p hp, True.intro⟩
    · show Ok _ _ H [] _ (runF L.gc fs n kl [.scr ns] [])
      rw [hm]
      exact fun H' m' _ _ v rv => rv
  · intro base KB GB TB
    have := main base KB GB (fun p hp => ⟨(TB p hp).1, (TB p hp).2, (TB p hp).3⟩) kl rl hl []
    rw [show (L.T l.prog w K mg base).F kl = fa by
      rw [efa]
      show He.fAd K (match L.rows[kl]? with | some r => r.d.at_ | none => (("" : Str), (none : Option Str))) = _
      rw [hl]] at this
    have e2 : rl.row.ps = [x] := hlp
    rw [e2] at this
    exact this.imp fun vs H Q E z => z base
end
end TK
end
section
set_option autoImplicit false
set_option linter.all false
set_option maxRecDepth 100000
namespace TK
open PySem L2 PySem.Spec PyProof.Rows
/-- where a keyword's default stands -/
def kwAt (p : He.Defn) (x : Str) (K : PySem.W.Frag) : Addr := match K.lookup (He.fAd K p) with
  | some ⟨_, _, .func fd, _⟩ => (match fd.kwdefaults with
    | .ref D => (match PySem.W.nsIn K D x with
      | some (some (.ref a)) => a
      | _ => 0)
    | _ => 0)
  | _ => 0
def emptyT (K : PySem.W.Frag) (a : Addr) : Bool := match K.lookup a with
  | some ⟨.type c, _, .seq its _, _⟩ => decide (c = "tuple") && its.isEmpty
  | _ => false
theorem emptyT_rep {K : PySem.W.Frag} {a : Addr} (h : emptyT K a = true) {T : Tb} (hK : T.K = K) (H : Hp) (m : List Addr) : RepV T H m (.tup []) (.ref a) := by
  unfold emptyT at h
  split at h
  · rename_i c dd its n sl e
    obtain ⟨h1, h2⟩ := Bool.and_eq_true_iff.mp h
    refine ⟨a, [], rfl, .inr (.inr ⟨_, its, n, by rw [hK]; exact e, congrArg Value.type (of_decide_eq_true h1), rfl, by rw [Array.isEmpty_iff.mp h2]; decide, ?_⟩), rfl⟩
    rw [Array.isEmpty_iff.mp h2]
    exact .nil
  · cases h
end TK
end
section
set_option autoImplicit false
set_option linter.all false
set_option maxRecDepth 100000
/-! ### what the texts do, row by row -/
namespace TK
open PySem
section
variable {gc : Nat → D} {G : Gm} {s : Vs} {S : Sx}
@[simp] theorem ev_v {i : Nat} : (ev gc G (.v i)).val s S = lift (s.getD i none) S := rfl
@[simp] theorem ev_c {d : D} : (ev gc G (.c d)).val s S = .ok d S := rfl
@[simp] theorem ev_g {j : Nat} : (ev gc G (.g j)).val s S = .ok (gc j) S := rfl
@[simp] theorem ev_bin {o : Op} {a b : E} : (ev gc G (.bin o a b)).val s S = ((ev gc G a).val s S).bind fun x S => ((ev gc G b).val s S).bind fun y S => lift (opD o x y S) S := rfl
@[simp] theorem ev_neg {a : E} : (ev gc G (.neg a)).val s S = ((ev gc G a).val s S).bind fun x S => lift (negD x) S := rfl
@[simp] theorem ev_not {a : E} : (ev gc G (.not a)).val s S = ((ev gc G a).val s S).bind fun x S => (lift (truD x S) S).bind fun b S => .ok (.bl (!b)) S := rfl
@[simp] theorem ev_notT {a : E} : (ev gc G (.not a)).tst s S = ((ev gc G a).tst s S).bind fun b S => .ok (!b) S := rfl
@[simp] theorem ev_and {es : Es} : (ev gc G (.and es)).val s S = (evs gc G es).andV s S := rfl
@[simp] theorem ev_andT {es : Es} : (ev gc G (.and es)).tst s S = (evs gc G es).andT s S := rfl
@[simp] theorem ev_or {es : Es} : (ev gc G (.or es)).val s S = (evs gc G es).orV s S := rfl
@[simp] theorem ev_orT {es : Es} : (ev gc G (.or es)).tst s S = (evs gc G es).orT s S := rfl
@[simp] theorem ev_cmp {o : Cp} {a b : E} : (ev gc G (.cmp o a b)).val s S = (((ev gc G a).val s S).bind fun x S => ((ev gc G b).val s S).bind fun y S => lift (cmpD o x y S) S).bind fun b S => .ok (.bl b) S := rfl
@[simp] theorem ev_cmpT {o : Cp} {a b : E} : (ev gc G (.cmp o a b)).tst s S = ((ev gc G a).val s S).bind fun x S => ((ev gc G b).val s S).bind fun y S => lift (cmpD o x y S) S := rfl
@[simp] theorem ev_chain {o p : Cp} {a b c : E} : (ev gc G (.chain o p a b c)).val s S = (((ev gc G a).val s S).bind fun x S => ((ev gc G b).val s S).bind fun y S => (lift (cmpD o x y S) S).bind fun t S => if t = true then ((ev gc G c).val s S).bind fun z S => lift (cmpD p y z S) S else .ok false S).bind fun b S => .ok (.bl b) S := rfl
@[simp] theorem ev_chainT {o p : Cp} {a b c : E} : (ev gc G (.chain o p a b c)).tst s S = ((ev gc G a).val s S).bind fun x S => ((ev gc G b).val s S).bind fun y S => (lift (cmpD o x y S) S).bind fun t S => if t = true then ((ev gc G c).val s S).bind fun z S => lift (cmpD p y z S) S else .ok false S := rfl
@[simp] theorem ev_ife {t a b : E} : (ev gc G (.ife t a b)).val s S = ((ev gc G t).tst s S).bind fun k S => if k = true then (ev gc G a).val s S else (ev gc G b).val s S := rfl
@[simp] theorem ev_sub {a i : E} : (ev gc G (.sub a i)).val s S = ((ev gc G a).val s S).bind fun x S => ((ev gc G i).val s S).bind fun y S => lift (ixD x y S) S := rfl
@[simp] theorem ev_dget {a i : E} : (ev gc G (.dget a i)).val s S = ((ev gc G a).val s S).bind fun x S => ((ev gc G i).val s S).bind fun y S => lift (dgetD x y S) S := rfl
@[simp] theorem ev_slc {a : E} {lo hi : Eo} : (ev gc G (.slc a lo hi)).val s S = ((ev gc G a).val s S).bind fun x S => ((evo gc G lo) s S).bind fun l S => ((evo gc G hi) s S).bind fun h S => lift (slcD x l h S) S := rfl
@[simp] theorem ev_tup {es : Es} : (ev gc G (.tup es)).val s S = ((evs gc G es).vals s S).bind fun xs S => if xs.length ≤ sizeLine then .ok (.tup xs) S else .bad := rfl
@[simp] theorem ev_lst {tr : Bool} {es : Es} : (ev gc G (.lst tr es)).val s S = ((evs gc G es).vals s S).bind fun xs S => newL tr xs S := rfl
@[simp] theorem ev_dct {tr : Bool} {ks : List L2.Key} {es : Es} : (ev gc G (.dct tr ks es)).val s S = ((evs gc G es).vals s S).bind fun xs S => if xs.length = ks.length ∧ ks.length ≤ 15 ∧ ks.Nodup then (if tr = true then .ok (.obj S.length) (S ++ [.dk ks xs]) else .ok (.dv ks xs) S) else .bad := rfl
@[simp] theorem ev_b1 {f : B1} {a : E} : (ev gc G (.b1 f a)).val s S = ((ev gc G a).val s S).bind fun x S => b1D f x S := rfl
@[simp] theorem ev_mm {m : Bool} {a b : E} : (ev gc G (.mm m a b)).val s S = ((ev gc G a).val s S).bind fun x S => ((ev gc G b).val s S).bind fun y S => lift (mmD m x y) S := rfl
@[simp] theorem ev_isi {t : String} {a : E} : (ev gc G (.isi t a)).val s S = ((ev gc G a).val s S).bind fun x S => lift ((isiD t x S).map .bl) S := rfl
@[simp] theorem ev_fld {c : Nat} {a : E} {x : Str} : (ev gc G (.fld c a x)).val s S = ((ev gc G a).val s S).bind fun d S => lift (fldD c d x S) S := rfl
@[simp] theorem ev_call {k m : Nat} {es : Es} : (ev gc G (.call k m es)).val s S = ((evs gc G es).vals s S).bind fun xs S => wrp m S (G k xs S) := rfl
@[simp] theorem ev_new {c k m : Nat} {es : Es} : (ev gc G (.new c k m es)).val s S = ((evs gc G es).vals s S).bind fun xs S => wrp m S (newD c (G k) xs S) := rfl
@[simp] theorem ev_newK {c k m : Nat} {kw : List Str} {dfl : List D} {es : Es} : (ev gc G (.newK c k m kw dfl es)).val s S = ((evs gc G es).vals s S).bind fun xs S => if xs.length = kw.length then wrp m S (newD c (G k) (xs ++ dfl) S) else .bad := rfl
@[simp] theorem ev_mt {c k m : Nat} {a : E} {x : Str} {es : Es} : (ev gc G (.mt c k m a x es)).val s S = ((ev gc G a).val s S).bind fun d S => (lift (mtD c x d S) S).bind fun _ S => ((evs gc G es).vals s S).bind fun xs S => wrp m S (G k (d :: xs) S) := rfl
@[simp] theorem ev_app {a b : E} : (ev gc G (.app a b)).val s S = ((ev gc G a).val s S).bind fun x S => if (lstOf x S).isSome = true then ((ev gc G b).val s S).bind fun y S => appD x y S else .bad := rfl
@[simp] theorem ev_ext {a b : E} : (ev gc G (.ext a b)).val s S = ((ev gc G a).val s S).bind fun x S => if (lstOf x S).isSome = true then ((ev gc G b).val s S).bind fun y S => extD x y S else .bad := rfl
@[simp] theorem ev_pop {a : E} : (ev gc G (.pop a)).val s S = ((ev gc G a).val s S).bind fun x S => popD x S := rfl
@[simp] theorem ev_popi {a i : E} : (ev gc G (.popi a i)).val s S = ((ev gc G a).val s S).bind fun x S => if (lstOf x S).isSome = true then ((ev gc G i).val s S).bind fun y S => popiD x y S else .bad := rfl
@[simp] theorem ev_lc {tr : Bool} {tg : Tg} {it : It} {cond : Eo} {elt : E} {vs : List Nat} : (ev gc G (.lc tr tg it cond elt vs)).val s S = ((evi gc G it) s S).bind fun xs S => (lcL tg (evc gc G cond) (ev gc G elt).val xs.2 (wipeV s vs) xs.1 [] S).nox.bind fun ys S => newL tr ys S := rfl
@[simp] theorem ev_all {tg : Tg} {it : It} {elt : E} {vs : List Nat} : (ev gc G (.all tg it elt vs)).val s S = ((evi gc G it) s S).bind fun xs S => (allL tg (ev gc G elt).val xs.2 (wipeV s vs) xs.1 S).nox.bind fun b S => .ok (.bl b) S := rfl
/-- tests of values -/
@[simp] theorem tst_v {i : Nat} : (ev gc G (.v i)).tst s S = ((ev gc G (.v i)).val s S).bind fun d S => lift (truD d S) S := rfl
@[simp] theorem tst_call {k m : Nat} {es : Es} : (ev gc G (.call k m es)).tst s S = ((ev gc G (.call k m es)).val s S).bind fun d S => lift (truD d S) S := rfl
@[simp] theorem tst_isi {t : String} {a : E} : (ev gc G (.isi t a)).tst s S = ((ev gc G (.isi t a)).val s S).bind fun d S => lift (truD d S) S := rfl
@[simp] theorem tst_all {tg : Tg} {it : It} {elt : E} {vs : List Nat} : (ev gc G (.all tg it elt vs)).tst s S = ((ev gc G (.all tg it elt vs)).val s S).bind fun d S => lift (truD d S) S := rfl
@[simp] theorem tst_mt {c k m : Nat} {a : E} {x : Str} {es : Es} : (ev gc G (.mt c k m a x es)).tst s S = ((ev gc G (.mt c k m a x es)).val s S).bind fun d S => lift (truD d S) S := rfl
@[simp] theorem tst_sub {a i : E} : (ev gc G (.sub a i)).tst s S = ((ev gc G (.sub a i)).val s S).bind fun d S => lift (truD d S) S := rfl
@[simp] theorem tst_dget {a i : E} : (ev gc G (.dget a i)).tst s S = ((ev gc G (.dget a i)).val s S).bind fun d S => lift (truD d S) S := rfl
@[simp] theorem tst_fld {c : Nat} {a : E} {x : Str} : (ev gc G (.fld c a x)).tst s S = ((ev gc G (.fld c a x)).val s S).bind fun d S => lift (truD d S) S := rfl
/-! lists -/
@[simp] theorem evs_nil : (evs gc G .nil).vals s S = .ok [] S := rfl
@[simp] theorem evs_cons {e : E} {es : Es} : (evs gc G (.cons e es)).vals s S = ((ev gc G e).val s S).bind fun x S => ((evs gc G es).vals s S).bind fun xs S => .ok (x :: xs) S := rfl
@[simp] theorem andV_one {e : E} : (evs gc G (.cons e .nil)).andV s S = (ev gc G e).val s S := rfl
@[simp] theorem andV_cons {e f : E} {es : Es} : (evs gc G (.cons e (.cons f es))).andV s S = ((ev gc G e).val s S).bind fun x S => (lift (truD x S) S).bind fun b S => if b = true then (evs gc G (.cons f es)).andV s S else .ok x S := rfl
@[simp] theorem orV_one {e : E} : (evs gc G (.cons e .nil)).orV s S = (ev gc G e).val s S := rfl
@[simp] theorem orV_cons {e f : E} {es : Es} : (evs gc G (.cons e (.cons f es))).orV s S = ((ev gc G e).val s S).bind fun x S => (lift (truD x S) S).bind fun b S => if b = true then .ok x S else (evs gc G (.cons f es)).orV s S := rfl
@[simp] theorem andT_nil : (evs gc G .nil).andT s S = .ok true S := rfl
@[simp] theorem andT_cons {e : E} {es : Es} : (evs gc G (.cons e es)).andT s S = ((ev gc G e).tst s S).bind fun b S => if b = true then (evs gc G es).andT s S else .ok false S := rfl
@[simp] theorem orT_nil : (evs gc G .nil).orT s S = .ok false S := rfl
@[simp] theorem orT_cons {e : E} {es : Es} : (evs gc G (.cons e es)).orT s S = ((ev gc G e).tst s S).bind fun b S => if b = true then .ok true S else (evs gc G es).orT s S := rfl
@[simp] theorem evo_none : (evo gc G .none) s S = .ok none S := rfl
@[simp] theorem evo_some {e : E} : (evo gc G (.some e)) s S = ((ev gc G e).val s S).bind fun d S => (lift (intD d) S).bind fun i S => .ok (some i) S := rfl
@[simp] theorem evc_none : (evc gc G .none) s S = .ok true S := rfl
@[simp] theorem evc_some {e : E} : (evc gc G (.some e)) s S = (ev gc G e).tst s S := rfl
@[simp] theorem evi_e {a : E} : (evi gc G (.e a)) s S = ((ev gc G a).val s S).bind fun d S => seqI d S := rfl
@[simp] theorem evi_rng {lo : Eo} {a : E} : (evi gc G (.rng lo a)) s S = ((evo gc G lo) s S).bind fun l S => ((ev gc G a).val s S).bind fun h S => rngI l h S := rfl
/-! statements -/
@[simp] theorem ess_nil : ess gc G .nil s S = .ok (.nx s) S := rfl
@[simp] theorem ess_cons {a : Sm} {r : Sms} : ess gc G (.cons a r) s S = (es gc G a s S).bind fun f S => (match f with | .nx s' => ess gc G r s' S | f => .ok f S) := rfl
@[simp] theorem es_set {i : Nat} {e : E} : es gc G (.set i e) s S = ((ev gc G e).val s S).bind fun d S => .ok (.nx (s.set i (some d))) S := rfl
@[simp] theorem es_unp {tg : Tg} {e : E} : es gc G (.unp tg e) s S = ((ev gc G e).val s S).bind fun d S => (lift (asg tg d s) S).bind fun s' S => .ok (.nx s') S := rfl
@[simp] theorem es_seti {a i e : E} : es gc G (.seti a i e) s S = ((ev gc G e).val s S).bind fun d S => ((ev gc G a).val s S).bind fun x S => ((ev gc G i).val s S).bind fun y S => (match setD x y d S with | some S' => .ok (.nx s) S' | none => .bad) := rfl
@[simp] theorem es_setf {c : Nat} {a e : E} {x : Str} : es gc G (.setf c a x e) s S = ((ev gc G e).val s S).bind fun d S => ((ev gc G a).val s S).bind fun o S => (match setF c o x d S with | some S' => .ok (.nx s) S' | none => .bad) := rfl
@[simp] theorem es_aug {i : Nat} {e : E} : es gc G (.aug i e) s S = (match s.getD i none with | some (.int x) => ((ev gc G e).val s S).bind fun d S => (match d with | .int y => .ok (.nx (s.set i (some (.int (x + y))))) S | _ => .bad) | _ => .bad) := rfl
@[simp] theorem es_ite {t : E} {a b : Sms} : es gc G (.ite t a b) s S = ((ev gc G t).tst s S).bind fun k S => if k = true then ess gc G a s S else ess gc G b s S := rfl
@[simp] theorem es_for {tg : Tg} {it : It} {b : Sms} : es gc G (.for_ tg it b) s S = ((evi gc G it) s S).bind fun xs S => forL tg xs.2 (ess gc G b) xs.1 s S := rfl
@[simp] theorem es_whl {n : Nat} {t : E} {b : Sms} : es gc G (.whl n t b) s S = whlL (ev gc G t).tst (ess gc G b) n s S := rfl
@[simp] theorem es_ret {e : E} : es gc G (.ret e) s S = ((ev gc G e).val s S).bind fun d S => .ok (.rt d) S := rfl
@[simp] theorem es_retN : es gc G .retN s S = .ok (.rt .non) S := rfl
@[simp] theorem es_ex {e : E} : es gc G (.ex e) s S = ((ev gc G e).val s S).bind fun _ S => .ok (.nx s) S := rfl
@[simp] theorem es_brk : es gc G .brk s S = .ok (.bk s) S := rfl
@[simp] theorem es_pass : es gc G .pass s S = .ok (.nx s) S := rfl
@[simp] theorem es_try {c i : Nat} {b h : Sms} : es gc G (.try_ c i b h) s S = (match ess gc G b s S with | .ok f S => .ok f S | _ => .bad) := rfl
@[simp] theorem es_never : es gc G .never s S = .bad := rfl
end
@[simp] theorem asg_nm {i : Nat} {d : D} {s : Vs} : asg (.nm i) d s = some (s.set i (some d)) := rfl
@[simp] theorem asg_tp {ts : List Tg} {ds : List D} {s : Vs} : asg (.tp ts) (.tup ds) s = asgs ts ds s := rfl
@[simp] theorem asgs_nil {s : Vs} : asgs [] [] s = some s := rfl
@[simp] theorem asgs_cons {t : Tg} {ts : List Tg} {d : D} {ds : List D} {s : Vs} : asgs (t :: ts) (d :: ds) s = (match asg t d s with | some s' => asgs ts ds s' | none => none) := rfl
@[simp] theorem wipeV_nil {s : Vs} : wipeV s [] = s := rfl
@[simp] theorem wipeV_cons {s : Vs} {v : Nat} {vs : List Nat} : wipeV s (v :: vs) = (wipeV s vs).set v none := rfl
@[simp] theorem wrp_0 {S : Sx} {r : R D} : wrp 0 S r = r := by unfold wrp; rfl
@[simp] theorem op_add {i j : Int} {S : Sx} : opD .add (.int i) (.int j) S = some (.int (i + j)) := rfl
@[simp] theorem op_sub {i j : Int} {S : Sx} : opD .sub (.int i) (.int j) S = some (.int (i - j)) := rfl
@[simp] theorem tru_bl {b : Bool} {S : Sx} : truD (.bl b) S = some b := rfl
@[simp] theorem tru_int {i : Int} {S : Sx} : truD (.int i) S = some (i != 0) := rfl
@[simp] theorem cmp_lt {i j : Int} {S : Sx} : cmpD .lt (.int i) (.int j) S = some (decide (i < j)) := rfl
@[simp] theorem cmp_le {i j : Int} {S : Sx} : cmpD .le (.int i) (.int j) S = some (decide (i ≤ j)) := rfl
@[simp] theorem cmp_gt {i j : Int} {S : Sx} : cmpD .gt (.int i) (.int j) S = some (decide (j < i)) := rfl
@[simp] theorem cmp_ge {i j : Int} {S : Sx} : cmpD .ge (.int i) (.int j) S = some (decide (j ≤ i)) := rfl
@[simp] theorem cmp_is {a : D} {S : Sx} : cmpD .is_ a .non S = some (decide (a = .non)) := rfl
@[simp] theorem cmp_isn {a : D} {S : Sx} : cmpD .isn a .non S = some (!decide (a = .non)) := rfl
@[simp] theorem b1_int {i : Int} {S : Sx} : b1D .int (.int i) S = .ok (.int i) S := rfl
@[simp] theorem b1_len {x : List D} {S : Sx} : b1D .len (.tup x) S = .ok (.int x.length) S := rfl
@[simp] theorem b1_lenl {x : List D} {S : Sx} : b1D .len (.lv x) S = .ok (.int x.length) S := rfl
@[simp] theorem b1_tup {x : List D} {S : Sx} : b1D .tuple (.lv x) S = .ok (.tup x) S := rfl
@[simp] theorem b1_tupt {x : List D} {S : Sx} : b1D .tuple (.tup x) S = .ok (.tup x) S := rfl
@[simp] theorem b1_list {tr : Bool} {x : List Int} {S : Sx} : b1D (.list tr) (.scr x) S = newL tr (x.map .int) S := rfl
@[simp] theorem neg_int {i : Int} : negD (.int i) = some (.int (-i)) := rfl
theorem op_mul {i j : Int} {S : Sx} (h : (-(2 ^ 64) < i ∧ i < 2 ^ 64) ∨ (-(2 ^ 64) < j ∧ j < 2 ^ 64)) : opD .mul (.int i) (.int j) S = some (.int (i * j)) := if_pos h
theorem op_mod {i j : Int} {S : Sx} (h : 0 < j) : opD .mod (.int i) (.int j) S = some (.int (i % j)) := if_pos h
theorem op_fdiv {i j : Int} {S : Sx} (h : 0 < j ∧ j < 1073741824) : opD .fdiv (.int i) (.int j) S = some (.int (i / j)) := if_pos h
theorem newL_f {xs : List D} {S : Sx} (h : xs.length ≤ sizeLine) : newL false xs S = .ok (.lv xs) S := by unfold newL; rw [if_pos h] <;> rfl
theorem newL_t {xs : List D} {S : Sx} (h : xs.length ≤ sizeLine) : newL true xs S = .ok (.obj S.length) (S ++ [.lst xs]) := by unfold newL; rw [if_pos h] <;> rfl
/-- the drawing state -/
def St (xs : List Int) (c s : Int) (r : Sx) : Sx := .lst (xs.map .int) :: .lst [.obj 0, .int c, .int s] :: r
end TK
end
section
set_option autoImplicit false
set_option linter.all false
set_option maxRecDepth 100000
namespace TK
open PySem
theorem szl : (1000000 : Nat) ≤ sizeLine := by decide
theorem b1_leno {n : Nat} {S : Sx} {xs : List D} (h : S[n]? = some (.lst xs)) : b1D .len (.obj n) S = .ok (.int xs.length) S := by simp [b1D, seqOf, lstOf, h]
theorem b1_tupo {n : Nat} {S : Sx} {xs : List D} (h : S[n]? = some (.lst xs)) : b1D .tuple (.obj n) S = .ok (.tup xs) S := by simp [b1D, seqOf, lstOf, h]
theorem ix_obj {n : Nat} {i : Int} {S : Sx} {xs : List D} (h : S[n]? = some (.lst xs)) : ixD (.obj n) (.int i) S = L2.atI xs i := by simp [ixD, seqOf, lstOf, h]
theorem ix_tup {i : Int} {S : Sx} {xs : List D} : ixD (.tup xs) (.int i) S = L2.atI xs i := by simp [ixD, seqOf]
theorem ix_lv {i : Int} {S : Sx} {xs : List D} : ixD (.lv xs) (.int i) S = L2.atI xs i := by simp [ixD, seqOf, lstOf]
theorem at_nat {α : Type} {xs : List α} {n : Nat} : L2.atI xs (n : Int) = xs[n]? := by
  unfold L2.atI L2.ixN
  by_cases h : n < xs.length
  · simp [h]
  · simp [h]
theorem at_int {α : Type} {xs : List α} {i : Int} (h : 0 ≤ i) : L2.atI xs i = xs[i.toNat]? := by
  obtain ⟨n, rfl⟩ := Int.eq_ofNat_of_zero_le h
  exact at_nat
@[simp] theorem at_0 {α : Type} {x : α} {xs : List α} : L2.atI (x :: xs) 0 = some x := by
  have := at_nat (xs := x :: xs) (n := 0)
  simpa using this
@[simp] theorem at_1 {α : Type} {x y : α} {xs : List α} : L2.atI (x :: y :: xs) 1 = some y := by
  have := at_nat (xs := x :: y :: xs) (n := 1)
  simpa using this
@[simp] theorem at_2 {α : Type} {x y z : α} {xs : List α} : L2.atI (x :: y :: z :: xs) 2 = some z := by
  have := at_nat (xs := x :: y :: z :: xs) (n := 2)
  simpa using this
theorem set_obj {n k : Nat} {d : D} {S : Sx} {xs : List D} (h : S[n]? = some (.lst xs)) (hk : k < xs.length) : setD (.obj n) (.int (k : Int)) d S = some (S.set n (.lst (xs.set k d))) := by
  simp [setD, h, L2.ixN, hk]
theorem popi_0 {n : Nat} {S : Sx} {x : D} {xs : List D} (h : S[n]? = some (.lst (x :: xs))) : popiD (.obj n) (.int 0) S = .ok x (S.set n (.lst xs)) := by
  simp [popiD, h, seqIndex?]
theorem lst_obj {n : Nat} {S : Sx} {xs : List D} (h : S[n]? = some (.lst xs)) : lstOf (.obj n) S = some xs := by simp [lstOf, h]
theorem app_obj {n : Nat} {d : D} {S : Sx} {xs : List D} (h : S[n]? = some (.lst xs)) (hl : xs.length < sizeLine) : appD (.obj n) d S = .ok .non (S.set n (.lst (xs ++ [d]))) := by simp [appD, h, hl]
section
variable {xs : List Int} {c s : Int} {r : Sx}
theorem st_0 : (St xs c s r)[0]? = some (.lst (xs.map .int)) := rfl
theorem st_1 : (St xs c s r)[1]? = some (.lst [.obj 0, .int c, .int s]) := rfl
/-- one drawing's places -/
theorem st_ix1 : ixD (.obj 1) (.int 1) (St xs c s r) = some (.int c) := by rw [ix_obj st_1] <;> rfl
theorem st_ix2 : ixD (.obj 1) (.int 2) (St xs c s r) = some (.int s) := by rw [ix_obj st_1] <;> rfl
theorem st_ix0 : ixD (.obj 1) (.int 0) (St xs c s r) = some (.obj 0) := by rw [ix_obj st_1] <;> rfl
theorem st_set1 {i : Int} : setD (.obj 1) (.int 1) (.int i) (St xs c s r) = some (St xs i s r) := (set_obj (n := 1) (k := 1) (d := .int i) (st_1 (xs := xs) (c := c) (s := s) (r := r)) (by simp)).trans rfl
theorem st_set2 {i : Int} : setD (.obj 1) (.int 2) (.int i) (St xs c s r) = some (St xs c i r) := (set_obj (n := 1) (k := 2) (d := .int i) (st_1 (xs := xs) (c := c) (s := s) (r := r)) (by simp)).trans rfl
theorem st_len : b1D .len (.obj 0) (St xs c s r) = .ok (.int xs.length) (St xs c s r) := by rw [b1_leno st_0]; simp
theorem st_lst : (lstOf (.obj 0) (St xs c s r)).isSome = true := by rw [lst_obj st_0] <;> rfl
theorem st_pop {x : Int} : popiD (.obj 0) (.int 0) (St (x :: xs) c s r) = .ok (.int x) (St xs c s r) := by rw [popi_0 (x := .int x) (xs := xs.map .int) rfl] <;> rfl
end
/-- a drawing def's text -/
def fNext : Sms := (.cons (.ite (.cmp .lt (.sub (.v 0) (.c (.int 1))) (.v 1)) (.cons (.ite (.cmp .gt (.b1 .len (.sub (.v 0) (.c (.int 0)))) (.c (.int 0))) (.cons (.set 2 (.popi (.sub (.v 0) (.c (.int 0))) (.c (.int 0)))) (.cons (.seti (.v 0) (.c (.int 1)) (.ife (.cmp .ge (.v 2) (.c (.int 0))) (.bin .mul (.c (.int 2)) (.v 2)) (.bin .sub (.bin .mul (.neg (.c (.int 2))) (.v 2)) (.c (.int 1))))) (.cons (.seti (.v 0) (.c (.int 2)) (.bin .mod (.b1 .int (.bin .add (.bin .mul (.sub (.v 0) (.c (.int 2))) (.c (.int 69621))) (.sub (.v 0) (.c (.int 1))))) (.c (.int 2147483647)))) .nil))) (.cons (.seti (.v 0) (.c (.int 2)) (.bin .mod (.b1 .int (.bin .add (.bin .mul (.sub (.v 0) (.c (.int 2))) (.c (.int 48271))) (.c (.int 11)))) (.c (.int 2147483647)))) (.cons (.seti (.v 0) (.c (.int 1)) (.bin .mod (.b1 .int (.bin .mul (.sub (.v 0) (.c (.int 2))) (.sub (.v 0) (.c (.int 2))))) (.c (.int 1000003)))) .nil))) .nil) .nil) (.cons (.set 3 (.bin .mod (.b1 .int (.sub (.v 0) (.c (.int 1)))) (.v 1))) (.cons (.seti (.v 0) (.c (.int 1)) (.bin .fdiv (.sub (.v 0) (.c (.int 1))) (.v 1))) (.cons (.ret (.v 3)) .nil))))
section
variable {gc : Nat → D} {G : Gm} {xs : List Int} {c s m : Int} {r : Sx}
theorem tail_ok (hm : 0 < m) (hm2 : m < 1073741824) {z : Option D} : ess gc G (.cons (.set 3 (.bin .mod (.b1 .int (.sub (.v 0) (.c (.int 1)))) (.v 1))) (.cons (.seti (.v 0) (.c (.int 1)) (.bin .fdiv (.sub (.v 0) (.c (.int 1))) (.v 1))) (.cons (.ret (.v 3)) .nil))) [some (.obj 1), some (.int m), z, none] (St xs c s r) = .ok (.rt (.int (c % m))) (St xs (c / m) s r) := by
  simp [st_ix1, op_mod hm, op_fdiv ⟨hm, hm2⟩, st_set1]
theorem next_ev (hm : 0 < m) (hm2 : m < 1073741824) : ∃ v ys c' s', ess gc G fNext [some (.obj 1), some (.int m), none, none] (St xs c s r) = .ok (.rt (.int v)) (St ys c' s' r) ∧ 0 ≤ v ∧ v < m ∧ ys.length ≤ xs.length := by
  have key : ∃ z ys c' s', es gc G (.ite (.cmp .lt (.sub (.v 0) (.c (.int 1))) (.v 1)) (.cons (.ite (.cmp .gt (.b1 .len (.sub (.v 0) (.c (.int 0)))) (.c (.int 0))) (.cons (.set 2 (.popi (.sub (.v 0) (.c (.int 0))) (.c (.int 0)))) (.cons (.seti (.v 0) (.c (.int 1)) (.ife (.cmp .ge (.v 2) (.c (.int 0))) (.bin .mul (.c (.int 2)) (.v 2)) (.bin .sub (.bin .mul (.neg (.c (.int 2))) (.v 2)) (.c (.int 1))))) (.cons (.seti (.v 0) (.c (.int 2)) (.bin .mod (.b1 .int (.bin .add (.bin .mul (.sub (.v 0) (.c (.int 2))) (.c (.int 69621))) (.sub (.v 0) (.c (.int 1))))) (.c (.int 2147483647)))) .nil))) (.cons (.seti (.v 0) (.c (.int 2)) (.bin .mod (.b1 .int (.bin .add (.bin .mul (.sub (.v 0) (.c (.int 2))) (.c (.int 48271))) (.c (.int 11)))) (.c (.int 2147483647)))) (.cons (.seti (.v 0) (.c (.int 1)) (.bin .mod (.b1 .int (.bin .mul (.sub (.v 0) (.c (.int 2))) (.sub (.v 0) (.c (.int 2))))) (.c (.int 1000003)))) .nil))) .nil) .nil) [some (.obj 1), some (.int m), none, none] (St xs c s r) = .ok (.nx [some (.obj 1), some (.int m), z, none]) (St ys c' s' r) ∧ ys.length ≤ xs.length := by
    by_cases h : c < m
    · cases xs with
      | nil =>
        have b : -18446744073709551616 < (s * 48271 + 11) % 2147483647 ∧ (s * 48271 + 11) % 2147483647 < 18446744073709551616 := by omega
        refine ⟨none, [], ((s * 48271 + 11) % 2147483647) * ((s * 48271 + 11) % 2147483647) % 1000003, (s * 48271 + 11) % 2147483647, ?_, Nat.le_refl _⟩
        simp [st_ix0, st_ix1, st_ix2, st_len, h, op_mul, op_mod, st_set1, st_set2, b]
      | cons x xs =>
        by_cases hx : 0 ≤ x
        · refine ⟨some (.int x), xs, 2 * x, (s * 69621 + 2 * x) % 2147483647, ?_, by simp⟩
          simp [st_ix0, st_ix1, st_ix2, st_len, h, op_mul, op_mod, st_set1, st_set2, st_lst, st_pop, hx]
        · refine ⟨some (.int x), xs, -2 * x - 1, (s * 69621 + (-2 * x - 1)) % 2147483647, ?_, by simp⟩
          simp [st_ix0, st_ix1, st_ix2, st_len, h, op_mul, op_mod, st_set1, st_set2, st_lst, st_pop, hx]
    · exact ⟨none, xs, c, s, by simp [st_ix1, h], Nat.le_refl _⟩
  obtain ⟨z, ys, c', s', e, hl⟩ := key
  refine ⟨c' % m, ys, c' / m, s', ?_, Int.emod_nonneg _ (by omega), Int.emod_lt_of_pos _ hm, hl⟩
  unfold fNext
  rw [ess_cons, e]
  exact tail_ok hm hm2
end
end TK
end
section
set_option autoImplicit false
set_option linter.all false
set_option maxRecDepth 100000
/-! ### the program's own checks, on right data -/
namespace TK
open PySem
/-- is_number -/
def f_is_number : Fn := ⟨3, 3, (.cons (.ret (.and (.cons (.isi "int" (.v 0)) (.cons (.not (.isi "bool" (.v 0))) (.cons (.chain .le .le (.v 1) (.v 0) (.v 2)) .nil))))) .nil)⟩
/-- are_numbers -/
def f_are_numbers : Fn := ⟨3, 4, (.cons (.ret (.all (.nm 3) (.e (.v 0)) (.call 0 0 (.cons (.v 3) (.cons (.v 1) (.cons (.v 2) .nil)))) [3])) .nil)⟩
/-- is_table -/
def f_is_table : Fn := ⟨2, 4, (.cons (.unp (.tp [(.nm 2), (.nm 3)]) (.v 1)) (.cons (.ite (.not (.call 0 0 (.cons (.v 2) (.cons (.c (.int 0)) (.cons (.bin .sub (.b1 .len (.v 0)) (.c (.int 1))) .nil))))) (.cons (.ret (.c (.bl false))) .nil) .nil) (.cons (.ret (.and (.cons (.cmp .eq (.b1 .len (.v 3)) (.sub (.v 0) (.v 2))) (.cons (.call 1 0 (.cons (.v 3) (.cons (.c (.int 0)) (.cons (.g 0) .nil)))) .nil)))) .nil)))⟩
/-- are_changes -/
def f_are_changes : Fn := ⟨2, 4, (.cons (.ite (.not (.chain .le .le (.c (.int 1)) (.b1 .len (.v 1)) (.c (.int 3)))) (.cons (.ret (.c (.bl false))) .nil) .nil) (.cons (.for_ (.tp [(.nm 2), (.nm 3)]) (.e (.v 1)) (.cons (.ite (.or (.cons (.not (.call 0 0 (.cons (.v 2) (.cons (.c (.int 0)) (.cons (.bin .sub (.b1 .len (.v 0)) (.c (.int 1))) .nil))))) (.cons (.not (.call 0 0 (.cons (.v 3) (.cons (.c (.int 1)) (.cons (.c (.int 3)) .nil))))) .nil))) (.cons (.ret (.c (.bl false))) .nil) .nil) .nil)) (.cons (.ret (.c (.bl true))) .nil)))⟩
/-- are_parts -/
def f_are_parts : Fn := ⟨2, 5, (.cons (.ite (.not (.chain .le .le (.c (.int 1)) (.b1 .len (.v 1)) (.c (.int 4)))) (.cons (.ret (.c (.bl false))) .nil) .nil) (.cons (.for_ (.tp [(.nm 2), (.nm 3), (.nm 4)]) (.e (.v 1)) (.cons (.ite (.or (.cons (.not (.call 2 0 (.cons (.v 0) (.cons (.v 2) .nil)))) (.cons (.not (.call 2 0 (.cons (.v 0) (.cons (.v 3) .nil)))) .nil))) (.cons (.ret (.c (.bl false))) .nil) .nil) (.cons (.ite (.and (.cons (.cmp .isn (.v 4) (.c .non)) (.cons (.not (.call 3 0 (.cons (.v 0) (.cons (.v 4) .nil)))) .nil))) (.cons (.ret (.c (.bl false))) .nil) .nil) .nil))) (.cons (.ret (.c (.bl true))) .nil)))⟩
/-- are_indexes -/
def f_are_indexes : Fn := ⟨2, 4, (.cons (.set 2 (.neg (.c (.int 1)))) (.cons (.for_ (.nm 3) (.e (.v 0)) (.cons (.ite (.not (.call 0 0 (.cons (.v 3) (.cons (.bin .add (.v 2) (.c (.int 1))) (.cons (.bin .sub (.v 1) (.c (.int 1))) .nil))))) (.cons (.ret (.c (.bl false))) .nil) .nil) (.cons (.set 2 (.v 3)) .nil))) (.cons (.ret (.c (.bl true))) .nil)))⟩
/-- Program.__init__ -/
def m_Program_init : Fn := ⟨6, 7, (.cons (.ite (.or (.cons (.not (.chain .le .le (.c (.int 1)) (.b1 .len (.v 1)) (.c (.int 3)))) (.cons (.not (.call 1 0 (.cons (.v 1) (.cons (.c (.int 2)) (.cons (.c (.int 4)) .nil))))) .nil))) (.cons .never .nil) .nil) (.cons (.ite (.not (.call 4 0 (.cons (.v 1) (.cons (.v 2) .nil)))) (.cons .never .nil) .nil) (.cons (.ite (.or (.cons (.cmp .gt (.b1 .len (.v 3)) (.c (.int 2))) (.cons (.not (.all (.nm 6) (.e (.v 3)) (.call 3 0 (.cons (.v 1) (.cons (.v 6) .nil))) [6])) .nil))) (.cons .never .nil) .nil) (.cons (.ite (.not (.call 5 0 (.cons (.v 4) (.cons (.b1 .len (.v 2)) .nil)))) (.cons .never .nil) .nil) (.cons (.ite (.not (.call 5 0 (.cons (.v 5) (.cons (.b1 .len (.v 2)) .nil)))) (.cons .never .nil) .nil) (.cons (.setf 0 (.v 0) "sizes" (.v 1)) (.cons (.setf 0 (.v 0) "parts" (.v 2)) (.cons (.setf 0 (.v 0) "ticks" (.v 3)) (.cons (.setf 0 (.v 0) "live" (.v 4)) (.cons (.setf 0 (.v 0) "skips" (.v 5)) .nil))))))))))⟩
/-- _law_next -/
def f_law_next : Fn := ⟨2, 4, (.cons (.ite (.cmp .lt (.sub (.v 0) (.c (.int 1))) (.v 1)) (.cons (.ite (.cmp .gt (.b1 .len (.sub (.v 0) (.c (.int 0)))) (.c (.int 0))) (.cons (.set 2 (.popi (.sub (.v 0) (.c (.int 0))) (.c (.int 0)))) (.cons (.seti (.v 0) (.c (.int 1)) (.ife (.cmp .ge (.v 2) (.c (.int 0))) (.bin .mul (.c (.int 2)) (.v 2)) (.bin .sub (.bin .mul (.neg (.c (.int 2))) (.v 2)) (.c (.int 1))))) (.cons (.seti (.v 0) (.c (.int 2)) (.bin .mod (.b1 .int (.bin .add (.bin .mul (.sub (.v 0) (.c (.int 2))) (.c (.int 69621))) (.sub (.v 0) (.c (.int 1))))) (.c (.int 2147483647)))) .nil))) (.cons (.seti (.v 0) (.c (.int 2)) (.bin .mod (.b1 .int (.bin .add (.bin .mul (.sub (.v 0) (.c (.int 2))) (.c (.int 48271))) (.c (.int 11)))) (.c (.int 2147483647)))) (.cons (.seti (.v 0) (.c (.int 1)) (.bin .mod (.b1 .int (.bin .mul (.sub (.v 0) (.c (.int 2))) (.sub (.v 0) (.c (.int 2))))) (.c (.int 1000003)))) .nil))) .nil) .nil) (.cons (.set 3 (.bin .mod (.b1 .int (.sub (.v 0) (.c (.int 1)))) (.v 1))) (.cons (.seti (.v 0) (.c (.int 1)) (.bin .fdiv (.sub (.v 0) (.c (.int 1))) (.v 1))) (.cons (.ret (.v 3)) .nil))))⟩
/-- _law_made -/
def f_law_made : Fn := ⟨1, 1, (.cons (.ret (.newK 0 6 2 ["sizes", "parts", "ticks", "live", "skips"] [] (.cons (.dget (.v 0) (.c (.str "sizes"))) (.cons (.dget (.v 0) (.c (.str "parts"))) (.cons (.dget (.v 0) (.c (.str "ticks"))) (.cons (.dget (.v 0) (.c (.str "live"))) (.cons (.dget (.v 0) (.c (.str "skips"))) .nil))))))) .nil)⟩
def comA : List Fn := [f_is_number, f_are_numbers, f_is_table, f_are_changes, f_are_parts, f_are_indexes, m_Program_init, f_law_next, f_law_made]
theorem allL_true {tg : Tg} {elt : Vs → Sx → R D} {still : Sx → Bool} {sw : Vs} {S : Sx} (hst : still S = true) : ∀ {ds : List D}, (∀ d ∈ ds, ∃ s1, asg tg d sw = some s1 ∧ elt s1 S = .ok (.bl true) S) → allL tg elt still sw ds S = .ok true S
  | [], _ => by simp [allL, hst]
  | d :: ds, h => by
    obtain ⟨s1, e1, e2⟩ := h d List.mem_cons_self
    have := allL_true hst fun d hd => h d (List.mem_cons_of_mem _ hd)
    simp [allL, hst, e1, e2, this]
theorem forL_thru {tg : Tg} {still : Sx → Bool} {b : Vs → Sx → R Fl} {S : Sx} (I : List D → Vs → Prop) (hst : still S = true) : ∀ {ds : List D} {s : Vs}, I ds s → (∀ d ds s, I (d :: ds) s → ∃ s1 s2, asg tg d s = some s1 ∧ b s1 S = .ok (.nx s2) S ∧ I ds s2) →
    ∃ s', forL tg still b ds s S = .ok (.nx s') S ∧ I [] s'
  | [], s, hi, _ => ⟨s, by simp [forL, hst], hi⟩
  | d :: ds, s, hi, h => by
    obtain ⟨s1, s2, e1, e2, i2⟩ := h d ds s hi
    obtain ⟨s', e3, i3⟩ := forL_thru I hst i2 h
    exact ⟨s', by simp [forL, hst, e1, e2, e3], i3⟩
@[simp] theorem isi_int {i : Int} {S : Sx} : isiD "int" (.int i) S = some true := by rfl
@[simp] theorem isi_intb {i : Int} {S : Sx} : isiD "bool" (.int i) S = some false := by rfl
/-! plain data -/
def Dat : Nat → D → Prop
  | _, .non => True
  | _, .int _ => True
  | _, .str x => PyData.strOk x = true
  | n + 1, .tup ds => ∀ d ∈ ds, Dat n d
  | _, _ => False
theorem dat_list {n : Nat} (ih : ∀ d, Dat n d → ∃ x, toPy d = some x ∧ PyData.canLay0 x = true ∧ PyData.depth x ≤ n) : ∀ ds : List D, (∀ d ∈ ds, Dat n d) → ∃ xs, toPys ds = some xs ∧ PyData.canLayAll0 xs = true ∧ PyData.depthAll xs ≤ n
  | [], _ => ⟨[], rfl, rfl, Nat.zero_le _⟩
  | d :: ds, h => by
    obtain ⟨x, h1, h2, h3⟩ := ih d (h d List.mem_cons_self)
    obtain ⟨xs, k1, k2, k3⟩ := dat_list ih ds fun e he => h e (List.mem_cons_of_mem _ he)
    exact ⟨x :: xs, by simp [toPys, h1, k1], by simp [PyData.canLayAll0, h2, k2], by simp [PyData.depthAll]; omega⟩
theorem Dat.py : ∀ (n : Nat) (d : D), Dat n d → ∃ x, toPy d = some x ∧ PyData.canLay0 x = true ∧ PyData.depth x ≤ n
  | n, .non, _ => ⟨.none, rfl, rfl, Nat.zero_le _⟩
  | n, .int i, _ => ⟨.int i, rfl, rfl, Nat.zero_le _⟩
  | n, .str x, h => ⟨.str x, rfl, by cases n <;> exact h, Nat.zero_le _⟩
  | n + 1, .tup ds, h => by
    obtain ⟨xs, k1, k2, k3⟩ := dat_list (Dat.py n) ds h
    exact ⟨.tuple xs, by simp [toPy, k1], k2, by simp [PyData.depth]; omega⟩
  | 0, .tup ds, h => by simp [Dat] at h
  | n, .bl _, h => by cases n <;> simp [Dat] at h
  | n, .scr _, h => by cases n <;> simp [Dat] at h
  | n, .lv _, h => by cases n <;> simp [Dat] at h
  | n, .dv _ _, h => by cases n <;> simp [Dat] at h
  | n, .iv _ _ _, h => by cases n <;> simp [Dat] at h
  | n, .obj _, h => by cases n <;> simp [Dat] at h
  | n, .fn _, h => by cases n <;> simp [Dat] at h
theorem dat_eqvs {n : Nat} (ih : ∀ d e x y, Dat n d → Dat n e → toPy d = some x → toPy e = some y → PyData.eqv x y = decide (d = e)) : ∀ (ds es : List D) (xs ys : List PyData), (∀ d ∈ ds, Dat n d) → (∀ d ∈ es, Dat n d) → toPys ds = some xs → toPys es = some ys → PyData.eqvAll xs ys = decide (ds = es)
  | [], [], xs, ys, _, _, h1, h2 => by cases h1; cases h2; rfl
  | [], e :: es, xs, ys, _, _, h1, h2 => by
    cases h1
    simp only [toPys] at h2
    split at h2
    · cases h2; rfl
    · cases h2
  | d :: ds, [], xs, ys, _, _, h1, h2 => by
    cases h2
    simp only [toPys] at h1
    split at h1
    · cases h1; rfl
    · cases h1
  | d :: ds, e :: es, xs, ys, k1, k2, h1, h2 => by
    simp only [toPys] at h1 h2
    split at h1
    · rename_i x xs' a1 a2
      cases h1
      split at h2
      · rename_i y ys' b1 b2
        cases h2
        have e1 := ih d e x y (k1 d List.mem_cons_self) (k2 e List.mem_cons_self) a1 b1
        have e2 := dat_eqvs ih ds es xs' ys' (fun z hz => k1 z (List.mem_cons_of_mem _ hz)) (fun z hz => k2 z (List.mem_cons_of_mem _ hz)) a2 b2
        simp [PyData.eqvAll, e1, e2]
      · cases h2
    · cases h1
theorem eqv_ii (i j : Int) : PyData.eqv (.int i) (.int j) = decide (D.int i = D.int j) := by
  by_cases h : i = j
  · subst h; simp [PyData.eqv]
  · simp [PyData.eqv, h]
theorem eqv_ss (i j : Str) : PyData.eqv (.str i) (.str j) = decide (D.str i = D.str j) := by
  by_cases h : i = j
  · subst h; simp [PyData.eqv]
  · simp [PyData.eqv, h]
theorem Dat.eqv : ∀ (n : Nat) (d e : D) (x y : PyData), Dat n d → Dat n e → toPy d = some x → toPy e = some y → PyData.eqv x y = decide (d = e) := by
  intro n
  induction n with
  | zero =>
    intro d e x y h1 h2 e1 e2
    cases d <;> simp [Dat] at h1 <;> cases e <;> simp [Dat] at h2 <;> cases e1 <;> cases e2 <;> first
      | exact eqv_ii ..
      | exact eqv_ss ..
      | simp [PyData.eqv]
  | succ n ih =>
    intro d e x y h1 h2 e1 e2
    have tl : ∀ ds z, toPy (.tup ds) = some z → ∃ xs, toPys ds = some xs ∧ z = .tuple xs := fun ds z h => by
      obtain ⟨xs, k1, k2⟩ := Option.map_eq_some_iff.mp (show (toPys ds).map PyData.tuple = some z from h)
      exact ⟨xs, k1, k2.symm⟩
    cases d with
    | tup ds =>
      obtain ⟨xs, k1, rfl⟩ := tl ds x e1
      cases e with
      | tup es =>
        obtain ⟨ys, k2, rfl⟩ := tl es y e2
        have := dat_eqvs ih ds es xs ys h1 h2 k1 k2
        simp [PyData.eqv, this]
      | non => cases e2; simp [PyData.eqv]
      | int i => cases e2; simp [PyData.eqv]
      | str z => cases e2; simp [PyData.eqv]
      | _ => simp [Dat] at h2
    | non =>
      cases e1
      cases e with
      | tup es => obtain ⟨ys, k2, rfl⟩ := tl es y e2; simp [PyData.eqv]
      | non => cases e2; simp [PyData.eqv]
      | int i => cases e2; simp [PyData.eqv]
      | str z => cases e2; simp [PyData.eqv]
      | _ => simp [Dat] at h2
    | int i =>
      cases e1
      cases e with
      | tup es => obtain ⟨ys, k2, rfl⟩ := tl es y e2; simp [PyData.eqv]
      | non => cases e2; simp [PyData.eqv]
      | int i => cases e2; exact eqv_ii ..
      | str z => cases e2; simp [PyData.eqv]
      | _ => simp [Dat] at h2
    | str z =>
      cases e1
      cases e with
      | tup es => obtain ⟨ys, k2, rfl⟩ := tl es y e2; simp [PyData.eqv]
      | non => cases e2; simp [PyData.eqv]
      | int i => cases e2; simp [PyData.eqv]
      | str z => cases e2; exact eqv_ss ..
      | _ => simp [Dat] at h2
    | _ => simp [Dat] at h1
theorem pyOf_dat {n : Nat} {d : D} {S : Sx} (h : Dat n d) : pyOf d S = toPy d := by
  cases d <;> first | rfl | (cases n <;> simp [Dat] at h)
theorem eqD_dat {n : Nat} {d e : D} {S : Sx} (hn : n ≤ 64) (h1 : Dat n d) (h2 : Dat n e) : eqD d e S = some (decide (d = e)) := by
  obtain ⟨x, a1, a2, a3⟩ := h1.py
  obtain ⟨y, b1, b2, b3⟩ := h2.py
  have q := Dat.eqv n d e x y h1 h2 a1 b1
  have s1 : SeqAt.shaped x = true := by
    unfold SeqAt.shaped
    simp [a2]
    omega
  have s2 : SeqAt.shaped y = true := by
    unfold SeqAt.shaped
    simp [b2]
    omega
  simp [eqD, pyOf_dat h1, pyOf_dat h2, a1, b1, s1, s2, q]
@[simp] theorem eq_int {i j : Int} {S : Sx} : cmpD .eq (.int i) (.int j) S = some (decide (i = j)) := by
  have := eqD_dat (n := 1) (d := .int i) (e := .int j) (S := S) (by omega) trivial trivial
  simpa [cmpD] using this
theorem dat_ints {n : Nat} {zs : List Int} : Dat (n + 1) (.tup (zs.map .int)) := by
  intro d hd
  obtain ⟨z, _, rfl⟩ := List.mem_map.mp hd
  cases n <;> trivial
theorem Dat.up : ∀ {n : Nat} {d : D}, Dat n d → ∀ m, n ≤ m → Dat m d := by
  intro n
  induction n with
  | zero =>
    intro d h m _
    cases d <;> simp [Dat] at h <;> cases m <;> first | trivial | exact h
  | succ n ih =>
    intro d h m hm
    obtain ⟨m, rfl⟩ : ∃ k, m = k + 1 := ⟨m - 1, by omega⟩
    cases d with
    | tup ds => exact fun d hd => ih (h d hd) m (by omega)
    | non => trivial
    | int i => trivial
    | str z => exact h
    | _ => simp [Dat] at h

/-! ### right data -/
def Sizes (zs : List Int) : Prop := 1 ≤ zs.length ∧ zs.length ≤ 3 ∧ ∀ z ∈ zs, 2 ≤ z ∧ z ≤ 4
def isTab (zs : List Int) (d : D) : Prop := ∃ (v : Nat) (t : List Int), d = .tup [.int v, .tup (t.map .int)] ∧ zs[v]? = some (t.length : Int) ∧ ∀ x ∈ t, 0 ≤ x ∧ x ≤ 7
def isChg (zs : List Int) (d : D) : Prop := ∃ l : List (Nat × Int), d = .tup (l.map fun p => .tup [.int p.1, .int p.2]) ∧ 1 ≤ l.length ∧ l.length ≤ 3 ∧ ∀ p ∈ l, p.1 < zs.length ∧ 1 ≤ p.2 ∧ p.2 ≤ 3
def isPart (zs : List Int) (d : D) : Prop := ∃ a b p, d = .tup [a, b, p] ∧ isTab zs a ∧ isTab zs b ∧ (p = .non ∨ isChg zs p)
/-- ascending, from above last, below n -/
def Asc (n : Int) : Int → List Int → Prop
  | _, [] => True
  | last, x :: r => last < x ∧ x < n ∧ Asc n x r
structure PD where
  zs : List Int
  ps : List D
  ts : List D
  lv : List Int
  sk : List Int
structure PD.ok (p : PD) : Prop where
  zs : Sizes p.zs
  ps : 1 ≤ p.ps.length ∧ p.ps.length ≤ 4 ∧ ∀ d ∈ p.ps, isPart p.zs d
  ts : p.ts.length ≤ 2 ∧ ∀ d ∈ p.ts, isChg p.zs d
  lv : Asc p.ps.length (-1) p.lv
  sk : Asc p.ps.length (-1) p.sk
def fldN : List Str := ["sizes", "parts", "ticks", "live", "skips"]
def PD.vals (p : PD) : List D := [.tup (p.zs.map .int), .tup p.ps, .tup p.ts, .tup (p.lv.map .int), .tup (p.sk.map .int)]
section
variable {gc : Nat → D} {rest : List Fn} {n : Nat} {S : Sx}
abbrev rA (gc : Nat → D) (rest : List Fn) (n : Nat) : Gm := runF gc (comA ++ rest) n
theorem num_ok {i lo hi : Int} : rA gc rest (n + 1) 0 [.int i, .int lo, .int hi] S = .ok (.bl (decide (lo ≤ i) && decide (i ≤ hi))) S := by
  show runB gc (rA gc rest n) f_is_number [.int i, .int lo, .int hi] S = _
  unfold runB f_is_number
  by_cases h : lo ≤ i <;> simp [startV, h]
theorem nums_ok {t : List Int} {lo hi : Int} (h : ∀ x ∈ t, lo ≤ x ∧ x ≤ hi) : rA gc rest (n + 2) 1 [.tup (t.map .int), .int lo, .int hi] S = .ok (.bl true) S := by
  show runB gc (rA gc rest (n + 1)) f_are_numbers [.tup (t.map .int), .int lo, .int hi] S = _
  unfold runB f_are_numbers
  have := allL_true (tg := .nm 3) (elt := (ev gc (rA gc rest (n + 1)) (.call 0 0 (.cons (.v 3) (.cons (.v 1) (.cons (.v 2) .nil))))).val) (still := fun _ => true) (sw := [some (.tup (t.map .int)), some (.int lo), some (.int hi), none]) (S := S) rfl (ds := t.map .int) (fun d hd => by
    obtain ⟨x, hx, rfl⟩ := List.mem_map.mp hd
    refine ⟨_, rfl, ?_⟩
    obtain ⟨h1, h2⟩ := h x hx
    simp [num_ok, h1, h2])
  simp [startV, seqI, seqOf, stillOf]
  rw [this]
  rfl
@[simp] theorem atI_nat {xs : List D} {k : Nat} : L2.atI xs (k : Int) = xs[k]? := at_nat
theorem table_ok (h7 : gc 0 = .int 7) {zs : List Int} {d : D} (h : isTab zs d) : rA gc rest (n + 3) 2 [.tup (zs.map .int), d] S = .ok (.bl true) S := by
  obtain ⟨v, t, rfl, h1, h2⟩ := h
  show runB gc (rA gc rest (n + 2)) f_is_table [.tup (zs.map .int), .tup [.int v, .tup (t.map .int)]] S = _
  unfold runB f_is_table
  have hv : v < zs.length := (List.getElem?_eq_some_iff.mp h1).1
  have b1 : (0 : Int) ≤ v := Int.natCast_nonneg v
  have b2 : (v : Int) ≤ (zs.length : Int) - 1 := by omega
  have e1 : (zs.map D.int)[v]? = some (.int (t.length : Int)) := by rw [List.getElem?_map, h1] <;> rfl
  have num := @num_ok gc rest (n + 1) S v 0 ((zs.length : Int) - 1)
  simp only [b1, b2, decide_true, Bool.and_self] at num
  simp [startV, num, nums_ok h2, ix_tup, e1, h7]
theorem changes_ok {zs : List Int} {d : D} (h : isChg zs d) : rA gc rest (n + 2) 3 [.tup (zs.map .int), d] S = .ok (.bl true) S := by
  obtain ⟨l, rfl, h1, h2, h3⟩ := h
  show runB gc (rA gc rest (n + 1)) f_are_changes [.tup (zs.map .int), .tup (l.map fun p => .tup [.int p.1, .int p.2])] S = _
  unfold runB f_are_changes
  obtain ⟨s', e, x, y, rfl, _⟩ := forL_thru (S := S) (tg := .tp [.nm 2, .nm 3]) (still := fun _ => true) (b := ess gc (rA gc rest (n + 1)) (.cons (.ite (.or (.cons (.not (.call 0 0 (.cons (.v 2) (.cons (.c (.int 0)) (.cons (.bin .sub (.b1 .len (.v 0)) (.c (.int 1))) .nil))))) (.cons (.not (.call 0 0 (.cons (.v 3) (.cons (.c (.int 1)) (.cons (.c (.int 3)) .nil))))) .nil))) (.cons (.ret (.c (.bl false))) .nil) .nil) .nil))
    (fun ds s => ∃ x y, s = [some (.tup (zs.map .int)), some (.tup (l.map fun p => .tup [.int p.1, .int p.2])), x, y] ∧ ∀ d ∈ ds, ∃ p : Nat × Int, d = .tup [.int p.1, .int p.2] ∧ p.1 < zs.length ∧ 1 ≤ p.2 ∧ p.2 ≤ 3) rfl (ds := l.map fun p => .tup [.int p.1, .int p.2]) (s := [some (.tup (zs.map .int)), some (.tup (l.map fun p => .tup [.int p.1, .int p.2])), none, none])
    ⟨none, none, rfl, fun d hd => by
      obtain ⟨p, hp, rfl⟩ := List.mem_map.mp hd
      exact ⟨p, rfl, h3 p hp⟩⟩ (by
    rintro d ds s ⟨x, y, rfl, hall⟩
    obtain ⟨p, rfl, q1, q2, q3⟩ := hall d List.mem_cons_self
    have b1 : (0 : Int) ≤ p.1 := Int.natCast_nonneg _
    have b2 : (p.1 : Int) ≤ (zs.length : Int) - 1 := by omega
    refine ⟨_, _, rfl, ?_, some (.int p.1), some (.int p.2), rfl, fun d hd => hall d (List.mem_cons_of_mem _ hd)⟩
    simp [num_ok, b1, b2, q2, q3])
  have c1 : (1 : Int) ≤ (l.length : Int) := by omega
  have c2 : (l.length : Int) ≤ 3 := by omega
  simp [startV, c1, c2, seqI, seqOf, stillOf]
  rw [e]
  rfl
theorem parts_ok (h7 : gc 0 = .int 7) {zs : List Int} {ps : List D} (h1 : 1 ≤ ps.length) (h2 : ps.length ≤ 4) (h3 : ∀ d ∈ ps, isPart zs d) : rA gc rest (n + 4) 4 [.tup (zs.map .int), .tup ps] S = .ok (.bl true) S := by
  show runB gc (rA gc rest (n + 3)) f_are_parts [.tup (zs.map .int), .tup ps] S = _
  unfold runB f_are_parts
  obtain ⟨s', e, x, y, z, rfl, _⟩ := forL_thru (S := S) (tg := .tp [.nm 2, .nm 3, .nm 4]) (still := fun _ => true) (b := ess gc (rA gc rest (n + 3)) (.cons (.ite (.or (.cons (.not (.call 2 0 (.cons (.v 0) (.cons (.v 2) .nil)))) (.cons (.not (.call 2 0 (.cons (.v 0) (.cons (.v 3) .nil)))) .nil))) (.cons (.ret (.c (.bl false))) .nil) .nil) (.cons (.ite (.and (.cons (.cmp .isn (.v 4) (.c .non)) (.cons (.not (.call 3 0 (.cons (.v 0) (.cons (.v 4) .nil)))) .nil))) (.cons (.ret (.c (.bl false))) .nil) .nil) .nil)))
    (fun ds s => ∃ x y z, s = [some (.tup (zs.map .int)), some (.tup ps), x, y, z] ∧ ∀ d ∈ ds, isPart zs d) rfl (ds := ps) (s := [some (.tup (zs.map .int)), some (.tup ps), none, none, none])
    ⟨none, none, none, rfl, h3⟩ (by
    rintro d ds s ⟨x, y, z, rfl, hall⟩
    obtain ⟨a, b, p, rfl, q1, q2, q3⟩ := hall d List.mem_cons_self
    refine ⟨_, _, rfl, ?_, some a, some b, some p, rfl, fun d hd => hall d (List.mem_cons_of_mem _ hd)⟩
    rcases q3 with rfl | q3
    · simp [table_ok h7 q1, table_ok h7 q2]
    · have hp : p ≠ .non := by
        obtain ⟨l, rfl, _⟩ := q3
        simp
      simp [table_ok h7 q1, table_ok h7 q2, changes_ok q3, hp])
  have c1 : (1 : Int) ≤ (ps.length : Int) := by omega
  have c2 : (ps.length : Int) ≤ 4 := by omega
  simp [startV, c1, c2, seqI, seqOf, stillOf]
  rw [e]
  rfl
theorem indexes_ok {c : Int} {l : List Int} (h : Asc c (-1) l) : rA gc rest (n + 2) 5 [.tup (l.map .int), .int c] S = .ok (.bl true) S := by
  show runB gc (rA gc rest (n + 1)) f_are_indexes [.tup (l.map .int), .int c] S = _
  unfold runB f_are_indexes
  obtain ⟨s', e, x, k, rfl, _⟩ := forL_thru (S := S) (tg := .nm 3) (still := fun _ => true) (b := ess gc (rA gc rest (n + 1)) (.cons (.ite (.not (.call 0 0 (.cons (.v 3) (.cons (.bin .add (.v 2) (.c (.int 1))) (.cons (.bin .sub (.v 1) (.c (.int 1))) .nil))))) (.cons (.ret (.c (.bl false))) .nil) .nil) (.cons (.set 2 (.v 3)) .nil)))
    (fun ds s => ∃ (x : Option D) (k : Int), s = [some (.tup (l.map .int)), some (.int c), some (.int k), x] ∧ ∃ r : List Int, ds = r.map .int ∧ Asc c k r) rfl (ds := l.map .int) (s := [some (.tup (l.map .int)), some (.int c), some (.int (-1)), none])
    ⟨none, -1, rfl, l, rfl, h⟩ (by
    rintro d ds s ⟨x, k, rfl, r, hr, ha⟩
    cases r with
    | nil => cases hr
    | cons y r =>
      cases hr
      obtain ⟨q1, q2, q3⟩ := ha
      have b1 : k + 1 ≤ y := by omega
      have b2 : y ≤ c - 1 := by omega
      refine ⟨_, [some (.tup (l.map .int)), some (.int c), some (.int y), some (.int y)], rfl, ?_, some (.int y), y, rfl, r, rfl, q3⟩
      simp [num_ok, b1, b2])
  simp [startV, seqI, seqOf, stillOf]
  rw [e]
  rfl
end
end TK
end
section
set_option autoImplicit false
set_option linter.all false
set_option maxRecDepth 100000
namespace TK
open PySem
theorem dat_pures {n : Nat} (ih : ∀ d, Dat n d → d.pure = true) : ∀ ds : List D, (∀ d ∈ ds, Dat n d) → D.pures ds = true
  | [], _ => rfl
  | d :: ds, h => by
    unfold D.pures
    rw [ih d (h d List.mem_cons_self), dat_pures ih ds fun e he => h e (List.mem_cons_of_mem _ he)]
    rfl
theorem Dat.pure : ∀ (n : Nat) (d : D), Dat n d → d.pure = true
  | _, .non, _ => rfl
  | _, .int _, _ => rfl
  | _, .str _, _ => rfl
  | n + 1, .tup ds, h => dat_pures (Dat.pure n) ds h
  | 0, .tup ds, h => by simp [Dat] at h
  | n, .bl _, h => rfl
  | n, .scr _, h => rfl
  | n, .lv _, h => by cases n <;> simp [Dat] at h
  | n, .dv _ _, h => by cases n <;> simp [Dat] at h
  | n, .iv _ _ _, h => by cases n <;> simp [Dat] at h
  | n, .obj _, h => by cases n <;> simp [Dat] at h
  | n, .fn _, h => rfl
theorem tab_dat {zs : List Int} {d : D} (h : isTab zs d) : Dat 2 d := by
  obtain ⟨v, t, rfl, _⟩ := h
  intro d hd
  simp only [List.mem_cons, List.not_mem_nil, or_false] at hd
  rcases hd with rfl | rfl
  · trivial
  · exact dat_ints
theorem chg_dat {zs : List Int} {d : D} (h : isChg zs d) : Dat 2 d := by
  obtain ⟨l, rfl, _⟩ := h
  intro d hd
  obtain ⟨p, _, rfl⟩ := List.mem_map.mp hd
  intro d hd
  simp only [List.mem_cons, List.not_mem_nil, or_false] at hd
  rcases hd with rfl | rfl <;> trivial
theorem part_dat {zs : List Int} {d : D} (h : isPart zs d) : Dat 3 d := by
  obtain ⟨a, b, p, rfl, h1, h2, h3⟩ := h
  intro d hd
  simp only [List.mem_cons, List.not_mem_nil, or_false] at hd
  rcases hd with rfl | rfl | rfl
  · exact tab_dat h1
  · exact tab_dat h2
  · rcases h3 with rfl | h3
    · trivial
    · exact chg_dat h3
theorem PD.ok.dat {p : PD} (h : p.ok) : ∀ d ∈ p.vals, Dat 4 d := by
  intro d hd
  simp only [PD.vals, List.mem_cons, List.not_mem_nil, or_false] at hd
  rcases hd with rfl | rfl | rfl | rfl | rfl
  · exact dat_ints
  · exact fun d hd => part_dat (h.ps.2.2 d hd)
  · exact fun d hd => (chg_dat (h.ts.2 d hd)).up 3 (by omega)
  · exact dat_ints
  · exact dat_ints
theorem set_ins {k : Nat} {S : Sx} {ns : List Str} {xs : List D} {x : Str} {v : D} (h : S[k]? = some (.ins 0 ns xs)) (hl : ns.length < 1000) : setF 0 (.obj k) x v S = some (S.set k (.ins 0 (putN ns xs x v).1 (putN ns xs x v).2)) := by
  simp [setF, h, hl]
theorem set_ins2 {k : Nat} {S : Sx} {ns : List Str} {xs : List D} {x : Str} {v : D} (hk : k < S.length) (hl : ns.length < 1000) : setF 0 (.obj k) x v (S.set k (.ins 0 ns xs)) = some (S.set k (.ins 0 (putN ns xs x v).1 (putN ns xs x v).2)) := by
  rw [set_ins (ns := ns) (xs := xs) (by simp [hk]) hl, List.set_set]
section
variable {gc : Nat → D} {rest : List Fn} {n : Nat} {S : Sx}
theorem init_ok (h7 : gc 0 = .int 7) {p : PD} (h : p.ok) {k : Nat} (hk : S[k]? = some (.ins 0 [] [])) : rA gc rest (n + 5) 6 (.obj k :: p.vals) S = .ok .non (S.set k (.ins 0 fldN p.vals)) := by
  show runB gc (rA gc rest (n + 4)) m_Program_init (.obj k :: p.vals) S = _
  unfold runB m_Program_init PD.vals
  have hkl : k < S.length := (List.getElem?_eq_some_iff.mp hk).1
  obtain ⟨z1, z2, z3⟩ := h.zs
  obtain ⟨p1, p2, p3⟩ := h.ps
  obtain ⟨t1, t2⟩ := h.ts
  have c1 : (1 : Int) ≤ (p.zs.length : Int) := by omega
  have c2 : (p.zs.length : Int) ≤ 3 := by omega
  have c3 : ¬ (2 : Int) < (p.ts.length : Int) := by omega
  have al := allL_true (tg := .nm 6) (elt := (ev gc (rA gc rest (n + 4)) (.call 3 0 (.cons (.v 1) (.cons (.v 6) .nil)))).val) (still := fun _ => true) (sw := [some (.obj k), some (.tup (p.zs.map .int)), some (.tup p.ps), some (.tup p.ts), some (.tup (p.lv.map .int)), some (.tup (p.sk.map .int)), none]) (S := S) rfl (ds := p.ts) (fun d hd => by
    refine ⟨_, rfl, ?_⟩
    simp [changes_ok (n := n + 2) (t2 d hd)])
  have nu := @nums_ok gc rest (n + 2) S p.zs 2 4 z3
  have pa := @parts_ok gc rest n S h7 p.zs p.ps p1 p2 p3
  have i1 := @indexes_ok gc rest (n + 2) S p.ps.length p.lv h.lv
  have i2 := @indexes_ok gc rest (n + 2) S p.ps.length p.sk h.sk
  simp [startV, c1, c2, c3, nu, pa, i1, i2, seqI, seqOf, stillOf]
  rw [al]
  have s1 : setF 0 (.obj k) "sizes" (.tup (p.zs.map .int)) S = some (S.set k (.ins 0 ["sizes"] [.tup (p.zs.map .int)])) := (set_ins hk (by simp)).trans rfl
  have s2 : setF 0 (.obj k) "parts" (.tup p.ps) (S.set k (.ins 0 ["sizes"] [.tup (p.zs.map .int)])) = some (S.set k (.ins 0 ["sizes", "parts"] [.tup (p.zs.map .int), .tup p.ps])) := (set_ins2 hkl (by simp)).trans rfl
  have s3 : setF 0 (.obj k) "ticks" (.tup p.ts) (S.set k (.ins 0 ["sizes", "parts"] [.tup (p.zs.map .int), .tup p.ps])) = some (S.set k (.ins 0 ["sizes", "parts", "ticks"] [.tup (p.zs.map .int), .tup p.ps, .tup p.ts])) := (set_ins2 hkl (by simp)).trans rfl
  have s4 : setF 0 (.obj k) "live" (.tup (p.lv.map .int)) (S.set k (.ins 0 ["sizes", "parts", "ticks"] [.tup (p.zs.map .int), .tup p.ps, .tup p.ts])) = some (S.set k (.ins 0 ["sizes", "parts", "ticks", "live"] [.tup (p.zs.map .int), .tup p.ps, .tup p.ts, .tup (p.lv.map .int)])) := (set_ins2 hkl (by simp)).trans rfl
  have s5 : setF 0 (.obj k) "skips" (.tup (p.sk.map .int)) (S.set k (.ins 0 ["sizes", "parts", "ticks", "live"] [.tup (p.zs.map .int), .tup p.ps, .tup p.ts, .tup (p.lv.map .int)])) = some (S.set k (.ins 0 fldN p.vals)) := (set_ins2 hkl (by simp)).trans rfl
  simp [i1, i2, s1, s2, s3, s4, s5]
  rfl
theorem prog_ok (h7 : gc 0 = .int 7) {p : PD} (h : p.ok) : wrp 2 S (newD 0 (rA gc rest (n + 5) 6) p.vals S) = .ok (.iv 0 fldN p.vals) S := by
  have e : (S ++ [MO.ins 0 [] []])[S.length]? = some (.ins 0 [] []) := by simp
  unfold newD
  rw [init_ok h7 h e]
  have e2 : (S ++ [MO.ins 0 [] []]).set S.length (.ins 0 fldN p.vals) = S ++ [.ins 0 fldN p.vals] := by simp
  rw [e2]
  have pu : D.pures p.vals = true := dat_pures (Dat.pure 4) _ h.dat
  simp [wrp, pu]
end
def keysP : List L2.Key := [.inr "sizes", .inr "parts", .inr "ticks", .inr "live", .inr "skips"]
section
variable {p : PD} {S : Sx}
theorem dg_sizes : dgetD (.dv keysP p.vals) (.str "sizes") S = some (.tup (p.zs.map .int)) := rfl
theorem dg_parts : dgetD (.dv keysP p.vals) (.str "parts") S = some (.tup p.ps) := rfl
theorem dg_ticks : dgetD (.dv keysP p.vals) (.str "ticks") S = some (.tup p.ts) := rfl
theorem dg_live : dgetD (.dv keysP p.vals) (.str "live") S = some (.tup (p.lv.map .int)) := rfl
theorem dg_skips : dgetD (.dv keysP p.vals) (.str "skips") S = some (.tup (p.sk.map .int)) := rfl
theorem fd_sizes : fldD 0 (.iv 0 fldN p.vals) "sizes" S = some (.tup (p.zs.map .int)) := rfl
theorem fd_parts : fldD 0 (.iv 0 fldN p.vals) "parts" S = some (.tup p.ps) := rfl
theorem fd_ticks : fldD 0 (.iv 0 fldN p.vals) "ticks" S = some (.tup p.ts) := rfl
theorem fd_live : fldD 0 (.iv 0 fldN p.vals) "live" S = some (.tup (p.lv.map .int)) := rfl
theorem fd_skips : fldD 0 (.iv 0 fldN p.vals) "skips" S = some (.tup (p.sk.map .int)) := rfl
end
section
variable {gc : Nat → D} {rest : List Fn} {n : Nat} {S : Sx}
theorem made_ok (h7 : gc 0 = .int 7) {p : PD} (h : p.ok) : rA gc rest (n + 6) 8 [.dv keysP p.vals] S = .ok (.iv 0 fldN p.vals) S := by
  show runB gc (rA gc rest (n + 5)) f_law_made [.dv keysP p.vals] S = _
  unfold runB f_law_made
  have := @prog_ok gc rest n S h7 p h
  simp only [PD.vals] at this
  simp [startV, dg_sizes, dg_parts, dg_ticks, dg_live, dg_skips, this]
  rfl
end
/-! ### drawing -/
def Dr (r S : Sx) : Prop := ∃ xs c s, S = St xs c s r
section
variable {gc : Nat → D} {rest : List Fn} {n : Nat} {r S : Sx}
theorem draw {m : Int} (hm : 0 < m) (hm2 : m < 1073741824) (h : Dr r S) : ∃ v S', rA gc rest (n + 1) 7 [.obj 1, .int m] S = .ok (.int v) S' ∧ Dr r S' ∧ 0 ≤ v ∧ v < m := by
  obtain ⟨xs, c, s, rfl⟩ := h
  obtain ⟨v, ys, c', s', e, h1, h2, _⟩ := next_ev (gc := gc) (G := rA gc rest n) (xs := xs) (c := c) (s := s) (r := r) hm hm2
  refine ⟨v, _, ?_, ⟨ys, c', s', rfl⟩, h1, h2⟩
  show runB gc (rA gc rest n) f_law_next [.obj 1, .int m] (St xs c s r) = _
  unfold runB
  have : ess gc (rA gc rest n) f_law_next.body (startV f_law_next.nv [.obj 1, .int m]) (St xs c s r) = .ok (.rt (.int v)) (St ys c' s' r) := e
  rw [if_pos (show ([D.obj 1, D.int m] : List D).length = f_law_next.np from rfl), this]
end
theorem lc_draw {tg : Tg} {elt : Vs → Sx → R D} {cond : Vs → Sx → R Bool} {sw : Vs} {r : Sx} {P : D → Prop} (hc : ∀ s S, cond s S = .ok true S) : ∀ {ds acc : List D} {S : Sx}, Dr r S → acc.length + ds.length ≤ 1000000 →
    (∀ d ∈ ds, ∃ s1, asg tg d sw = some s1 ∧ ∀ S, Dr r S → ∃ y S', elt s1 S = .ok y S' ∧ Dr r S' ∧ P y) → ∃ zs S', lcL tg cond elt (fun _ => true) sw ds acc S = .ok (acc ++ zs) S' ∧ Dr r S' ∧ zs.length = ds.length ∧ ∀ z ∈ zs, P z
  | [], acc, S, hS, _, _ => ⟨[], S, by simp [lcL], hS, rfl, by simp⟩
  | d :: ds, acc, S, hS, hl, h => by
    obtain ⟨s1, e1, h1⟩ := h d List.mem_cons_self
    obtain ⟨y, S1, e2, d1, py⟩ := h1 S hS
    simp only [List.length_cons] at hl
    obtain ⟨zs, S2, e3, d2, l2, p2⟩ := lc_draw hc (acc := acc ++ [y]) d1 (by simp; omega) fun e he => h e (List.mem_cons_of_mem _ he)
    have hsz : acc.length < sizeLine := Nat.lt_of_lt_of_le (by omega) szl
    refine ⟨y :: zs, S2, ?_, d2, by simp [l2], fun z hz => ?_⟩
    · simp [lcL, e1, hc, e2, hsz, e3]
    · rcases List.mem_cons.mp hz with rfl | hz
      · exact py
      · exact p2 z hz
theorem lc_pick {tg : Tg} {elt : Vs → Sx → R D} {cond : Vs → Sx → R Bool} {sw : Vs} {r : Sx} : ∀ {ds acc : List D} {S : Sx}, Dr r S → acc.length + ds.length ≤ 1000000 →
    (∀ d ∈ ds, ∃ s1, asg tg d sw = some s1 ∧ (∀ S, elt s1 S = .ok d S) ∧ ∀ S, Dr r S → ∃ b S', cond s1 S = .ok b S' ∧ Dr r S') → ∃ zs S', lcL tg cond elt (fun _ => true) sw ds acc S = .ok (acc ++ zs) S' ∧ Dr r S' ∧ zs.Sublist ds
  | [], acc, S, hS, _, _ => ⟨[], S, by simp [lcL], hS, .slnil⟩
  | d :: ds, acc, S, hS, hl, h => by
    obtain ⟨s1, e1, h0, h1⟩ := h d List.mem_cons_self
    obtain ⟨b, S1, e2, d1⟩ := h1 S hS
    simp only [List.length_cons] at hl
    have hsz : acc.length < sizeLine := Nat.lt_of_lt_of_le (by omega) szl
    cases b with
    | true =>
      obtain ⟨zs, S2, e3, d2, l2⟩ := lc_pick (acc := acc ++ [d]) d1 (by simp; omega) fun e he => h e (List.mem_cons_of_mem _ he)
      exact ⟨d :: zs, S2, by simp [lcL, e1, e2, h0, hsz, e3], d2, l2.cons_cons d⟩
    | false =>
      obtain ⟨zs, S2, e3, d2, l2⟩ := lc_pick (acc := acc) d1 (by omega) fun e he => h e (List.mem_cons_of_mem _ he)
      exact ⟨zs, S2, by simp [lcL, e1, e2, e3], d2, l2.cons d⟩
/-- ascending places that are picked -/
theorem asc_pick {n : Nat} : ∀ {zs : List D} {a : Nat} {l : Nat}, a + l ≤ n → zs.Sublist ((List.range' a l).map fun i => D.int (i : Nat)) → ∃ xs : List Int, zs = xs.map .int ∧ Asc n ((a : Int) - 1) xs := by
  intro zs a l
  induction l generalizing zs a with
  | zero =>
    intro _ h
    simp at h
    exact ⟨[], by simp [h], trivial⟩
  | succ l ih =>
    intro hn h
    rw [List.range'_succ, List.map_cons] at h
    have weak : ∀ {xs : List Int} {b c : Int}, b ≤ c → Asc n c xs → Asc n b xs := fun {xs b c} hbc h => by
      cases xs with
      | nil => trivial
      | cons x xs => exact ⟨by have := h.1; omega, h.2⟩
    cases h with
    | cons _ h =>
      obtain ⟨xs, e, ha⟩ := ih (by omega) h
      exact ⟨xs, e, weak (by omega) ha⟩
    | cons_cons _ h =>
      obtain ⟨xs, e, ha⟩ := ih (by omega) h
      refine ⟨(a : Int) :: xs, by simp [e], by omega, by omega, ?_⟩
      have e2 : ((a + 1 : Nat) : Int) - 1 = (a : Int) := by omega
      rw [e2] at ha
      exact ha
theorem rng_eq {k : Int} (h : 0 ≤ k) : rngL 0 k = (List.range' 0 k.toNat).map fun i => D.int (i : Nat) := by
  unfold rngL
  rw [List.range_eq_range']
  simp
theorem rng_ok {k : Int} {S : Sx} (h1 : 0 ≤ k) (h2 : k ≤ 1000000) : rngI none (.int k) S = .ok (rngL 0 k, fun _ => true) S := by
  have hr : (-(2 ^ 62) ≤ (none : Option Int).getD 0 ∧ (none : Option Int).getD 0 < 2 ^ 62) ∧ (-(2 ^ 62) ≤ k ∧ k < 2 ^ 62) := by
    refine ⟨⟨by decide, by decide⟩, by omega, by omega⟩
  unfold rngI
  simp only [intD, lift_some, R.bind_ok]
  rw [if_pos hr]
  rfl
theorem rng_mem {k : Int} {d : D} (h : d ∈ rngL 0 k) : ∃ i : Nat, d = .int i ∧ (i : Int) < k := by
  unfold rngL at h
  obtain ⟨i, hi, rfl⟩ := List.mem_map.mp h
  have := List.mem_range.mp hi
  exact ⟨i, by simp, by omega⟩
theorem ints_of : ∀ {l : List D} {P : Int → Prop}, (∀ d ∈ l, ∃ i, d = .int i ∧ P i) → ∃ q : List Int, l = q.map .int ∧ ∀ i ∈ q, P i
  | [], P, _ => ⟨[], rfl, by simp⟩
  | d :: l, P, h => by
    obtain ⟨q, rfl, hq⟩ := ints_of fun z hz => h z (List.mem_cons_of_mem _ hz)
    obtain ⟨p, rfl, hp⟩ := h d List.mem_cons_self
    exact ⟨p :: q, rfl, fun z hz => by
      rcases List.mem_cons.mp hz with rfl | hz
      · exact hp
      · exact hq z hz⟩
theorem forL_dr {tg : Tg} {still : Sx → Bool} {b : Vs → Sx → R Fl} (I : List D → Vs → Sx → Prop) (hst : ∀ ds s S, I ds s S → still S = true) : ∀ {ds : List D} {s : Vs} {S : Sx}, I ds s S → (∀ d ds s S, I (d :: ds) s S → ∃ s1 s2 S2, asg tg d s = some s1 ∧ b s1 S = .ok (.nx s2) S2 ∧ I ds s2 S2) →
    ∃ s' S', forL tg still b ds s S = .ok (.nx s') S' ∧ I [] s' S'
  | [], s, S, hi, _ => ⟨s, S, by simp [forL, hst _ _ _ hi], hi⟩
  | d :: ds, s, S, hi, h => by
    obtain ⟨s1, s2, S2, e1, e2, i2⟩ := h d ds s S hi
    obtain ⟨s', S', e3, i3⟩ := forL_dr I hst i2 h
    exact ⟨s', S', by simp [forL, hst _ _ _ hi, e1, e2, e3], i3⟩
end TK
end
section
set_option autoImplicit false
set_option linter.all false
set_option maxRecDepth 100000
set_option maxHeartbeats 0
namespace Kk10
open TK PySem L2 PySem.Spec PyProof.Rows
abbrev pw := PySem.Challenge.pw_twoknowers_k10_programs_keep_what_was_pa
def top (i : Nat) : Stmt := pw.main.body.getD i (.Pass ⟨0, 0, 0, 0⟩)
def inCls (s : Stmt) (j : Nat) : Stmt := match s with | .ClassDef _ _ _ b _ _ _ _ _ _ _ => b.getD j (.Pass ⟨0, 0, 0, 0⟩) | s => s
/-- _law_changes -/
def f_law_changes : Fn := ⟨2, 3, (.cons (.ret (.b1 .tuple (.lc false (.nm 2) (.rng .none (.bin .add (.c (.int 1)) (.call 7 0 (.cons (.v 0) (.cons (.c (.int 3)) .nil))))) .none (.tup (.cons (.call 7 0 (.cons (.v 0) (.cons (.b1 .len (.v 1)) .nil))) (.cons (.bin .add (.c (.int 1)) (.call 7 0 (.cons (.v 0) (.cons (.c (.int 3)) .nil)))) .nil))) [2]))) .nil)⟩
/-- _law_pair -/
def f_law_pair : Fn := ⟨3, 5, (.cons (.set 3 (.call 7 0 (.cons (.v 0) (.cons (.b1 .len (.v 1)) .nil)))) (.cons (.ret (.tup (.cons (.v 3) (.cons (.b1 .tuple (.lc false (.nm 4) (.rng .none (.sub (.v 1) (.v 3))) .none (.call 7 0 (.cons (.v 0) (.cons (.v 2) .nil))) [4])) .nil)))) .nil))⟩
/-- _law_data -/
def f_law_data : Fn := ⟨1, 11, (.cons (.set 1 (.b1 .tuple (.lc false (.nm 2) (.rng .none (.bin .add (.c (.int 1)) (.call 7 0 (.cons (.v 0) (.cons (.c (.int 3)) .nil))))) .none (.bin .add (.c (.int 2)) (.call 7 0 (.cons (.v 0) (.cons (.c (.int 3)) .nil)))) [2]))) (.cons (.set 3 (.lst true .nil)) (.cons (.for_ (.nm 2) (.rng .none (.bin .add (.c (.int 1)) (.call 7 0 (.cons (.v 0) (.cons (.c (.int 4)) .nil))))) (.cons (.set 4 (.sub (.lst false (.cons (.c (.int 8)) (.cons (.c (.int 2)) (.cons (.c (.int 3)) .nil)))) (.call 7 0 (.cons (.v 0) (.cons (.c (.int 3)) .nil))))) (.cons (.set 5 (.call 10 0 (.cons (.v 0) (.cons (.v 1) (.cons (.v 4) .nil))))) (.cons (.set 6 (.call 10 0 (.cons (.v 0) (.cons (.v 1) (.cons (.v 4) .nil))))) (.cons (.set 7 (.ife (.cmp .eq (.call 7 0 (.cons (.v 0) (.cons (.c (.int 4)) .nil))) (.c (.int 0))) (.c .non) (.call 9 0 (.cons (.v 0) (.cons (.v 1) .nil))))) (.cons (.ex (.app (.v 3) (.tup (.cons (.v 5) (.cons (.v 6) (.cons (.v 7) .nil)))))) .nil)))))) (.cons (.set 8 (.b1 .tuple (.lc false (.nm 2) (.rng .none (.call 7 0 (.cons (.v 0) (.cons (.c (.int 3)) .nil)))) .none (.call 9 0 (.cons (.v 0) (.cons (.v 1) .nil))) [2]))) (.cons (.set 9 (.b1 .tuple (.lc false (.nm 2) (.rng .none (.b1 .len (.v 3))) (.some (.cmp .eq (.call 7 0 (.cons (.v 0) (.cons (.c (.int 2)) .nil))) (.c (.int 0)))) (.v 2) [2]))) (.cons (.set 10 (.b1 .tuple (.lc false (.nm 2) (.rng .none (.b1 .len (.v 3))) (.some (.cmp .eq (.call 7 0 (.cons (.v 0) (.cons (.c (.int 4)) .nil))) (.c (.int 0)))) (.v 2) [2]))) (.cons (.ret (.dct false [.inr "sizes", .inr "parts", .inr "ticks", .inr "live", .inr "skips"] (.cons (.v 1) (.cons (.b1 .tuple (.v 3)) (.cons (.v 8) (.cons (.v 9) (.cons (.v 10) .nil))))))) .nil)))))))⟩
/-- _law_told -/
def f_law_told : Fn := ⟨1, 1, (.cons (.try_ 0 0 (.cons (.ex (.newK 0 6 2 ["sizes", "parts", "ticks", "live", "skips"] [] (.cons (.dget (.v 0) (.c (.str "sizes"))) (.cons (.dget (.v 0) (.c (.str "parts"))) (.cons (.dget (.v 0) (.c (.str "ticks"))) (.cons (.dget (.v 0) (.c (.str "live"))) (.cons (.dget (.v 0) (.c (.str "skips"))) .nil))))))) .nil) .nil) (.cons (.ret (.tup (.cons (.c (.str "made")) .nil))) .nil))⟩
/-- law -/
def f_law : Fn := ⟨1, 5, (.cons (.set 1 (.lst true (.cons (.b1 (.list true) (.v 0)) (.cons (.c (.int 0)) (.cons (.c (.int 1)) .nil))))) (.cons (.set 2 (.call 11 0 (.cons (.v 1) .nil))) (.cons (.ite (.cmp .ne (.call 12 0 (.cons (.v 2) .nil)) (.tup (.cons (.c (.str "made")) .nil))) (.cons (.ret (.c (.bl false))) .nil) .nil) (.cons (.set 3 (.call 8 0 (.cons (.v 2) .nil))) (.cons (.ite (.cmp .ne (.tup (.cons (.fld 0 (.v 3) "sizes") (.cons (.fld 0 (.v 3) "parts") (.cons (.fld 0 (.v 3) "ticks") .nil)))) (.tup (.cons (.dget (.v 2) (.c (.str "sizes"))) (.cons (.dget (.v 2) (.c (.str "parts"))) (.cons (.dget (.v 2) (.c (.str "ticks"))) .nil))))) (.cons (.ret (.c (.bl false))) .nil) .nil) (.cons (.ite (.cmp .ne (.tup (.cons (.fld 0 (.v 3) "live") (.cons (.fld 0 (.v 3) "skips") .nil))) (.tup (.cons (.dget (.v 2) (.c (.str "live"))) (.cons (.dget (.v 2) (.c (.str "skips"))) .nil)))) (.cons (.ret (.c (.bl false))) .nil) .nil) (.cons (.set 4 (.newK 0 6 2 ["sizes", "parts"] [.tup [], .tup [], .tup []] (.cons (.dget (.v 2) (.c (.str "sizes"))) (.cons (.dget (.v 2) (.c (.str "parts"))) .nil)))) (.cons (.ret (.cmp .eq (.tup (.cons (.fld 0 (.v 4) "sizes") (.cons (.fld 0 (.v 4) "parts") (.cons (.fld 0 (.v 4) "ticks") (.cons (.fld 0 (.v 4) "live") (.cons (.fld 0 (.v 4) "skips") .nil)))))) (.tup (.cons (.dget (.v 2) (.c (.str "sizes"))) (.cons (.dget (.v 2) (.c (.str "parts"))) (.cons (.tup .nil) (.cons (.tup .nil) (.cons (.tup .nil) .nil)))))))) .nil))))))))⟩
def own : List Fn := [f_law_changes, f_law_pair, f_law_data, f_law_told, f_law]
def fs : List Fn := comA ++ own
def r0 : RowD := ⟨⟨("is_number", none), "is_number", "is_number", defArgs (top 7), defBody (top 7), defScope (top 7), [], []⟩, ["value", "least", "most"], ["value", "least", "most"], false⟩
def r1 : RowD := ⟨⟨("are_numbers", none), "are_numbers", "are_numbers", defArgs (top 8), defBody (top 8), defScope (top 8), [], []⟩, ["values", "least", "most"], ["values", "least", "most", "value"], true⟩
def r2 : RowD := ⟨⟨("is_table", none), "is_table", "is_table", defArgs (top 9), defBody (top 9), defScope (top 9), [], []⟩, ["sizes", "pair"], ["sizes", "pair", "variable", "table"], false⟩
def r3 : RowD := ⟨⟨("are_changes", none), "are_changes", "are_changes", defArgs (top 10), defBody (top 10), defScope (top 10), [], []⟩, ["sizes", "changes"], ["sizes", "changes", "variable", "add"], false⟩
def r4 : RowD := ⟨⟨("are_parts", none), "are_parts", "are_parts", defArgs (top 11), defBody (top 11), defScope (top 11), [], []⟩, ["sizes", "parts"], ["sizes", "parts", "look", "word", "press"], false⟩
def r5 : RowD := ⟨⟨("are_indexes", none), "are_indexes", "are_indexes", defArgs (top 12), defBody (top 12), defScope (top 12), [], []⟩, ["indexes", "count"], ["indexes", "count", "last", "part"], false⟩
def r6 : RowD := ⟨⟨("Program", some "__init__"), "__init__", "Program.__init__", defArgs (inCls (top 13) 0), defBody (inCls (top 13) 0), defScope (inCls (top 13) 0), [], [("ticks", .adr (kwAt ("Program", some "__init__") "ticks")), ("live", .adr (kwAt ("Program", some "__init__") "live")), ("skips", .adr (kwAt ("Program", some "__init__") "skips"))]⟩, ["self", "sizes", "parts", "ticks", "live", "skips"], ["self", "sizes", "parts", "ticks", "live", "skips", "changes"], true⟩
def r7 : RowD := ⟨⟨("_law_next", none), "_law_next", "_law_next", defArgs (top 15), defBody (top 15), defScope (top 15), [], []⟩, ["_law_state", "_law_many"], ["_law_state", "_law_many", "_law_cell", "_law_drawn"], false⟩
def r8 : RowD := ⟨⟨("_law_made", none), "_law_made", "_law_made", defArgs (top 19), defBody (top 19), defScope (top 19), [], []⟩, ["_law_data_here"], ["_law_data_here"], false⟩
def r9 : RowD := ⟨⟨("_law_changes", none), "_law_changes", "_law_changes", defArgs (top 16), defBody (top 16), defScope (top 16), [], []⟩, ["_law_state", "_law_sizes"], ["_law_state", "_law_sizes", "_law_k"], false⟩
def r10 : RowD := ⟨⟨("_law_pair", none), "_law_pair", "_law_pair", defArgs (top 17), defBody (top 17), defScope (top 17), [], []⟩, ["_law_state", "_law_sizes", "_law_most"], ["_law_state", "_law_sizes", "_law_most", "_law_variable", "_law_k"], false⟩
def r11 : RowD := ⟨⟨("_law_data", none), "_law_data", "_law_data", defArgs (top 18), defBody (top 18), defScope (top 18), [], []⟩, ["_law_state"], ["_law_state", "_law_sizes", "_law_k", "_law_parts", "_law_most", "_law_look", "_law_word", "_law_press", "_law_ticks", "_law_live", "_law_skips"], false⟩
def r12 : RowD := ⟨⟨("_law_told", none), "_law_told", "_law_told", defArgs (top 20), defBody (top 20), defScope (top 20), [], []⟩, ["_law_data_here"], ["_law_data_here"], false⟩
def r13 : RowD := ⟨⟨("law", none), "law", "law", defArgs (top 21), defBody (top 21), defScope (top 21), [], []⟩, ["_law_script"], ["_law_script", "_law_state", "_law_data_here", "_law_told_here", "_law_bare"], false⟩
def rows : List RowD := [r0, r1, r2, r3, r4, r5, r6, r7, r8, r9, r10, r11, r12, r13]
def tb : TC := ⟨[0, 1, 2, 3, 4, 5, 7, 8, 9, 10, 11, 12, 13], [("is_number", 0), ("are_numbers", 1), ("is_table", 2), ("are_changes", 3), ("are_parts", 4), ("are_indexes", 5), ("_law_next", 7), ("_law_made", 8), ("_law_changes", 9), ("_law_pair", 10), ("_law_data", 11), ("_law_told", 12), ("law", 13)], [("Program", (0, 6))], [], [(0, "sizes"), (0, "parts"), (0, "ticks"), (0, "live"), (0, "skips")], [(6, ["sizes", "parts"], [.tup [], .tup [], .tup []]), (6, ["sizes", "parts", "ticks", "live", "skips"], [])], [("MOST_NUMBER", 0)]⟩
def L : LawD := ⟨rows, tb, ["Program"], [("MOST_NUMBER", 7)], 6, fun K => emptyT K (kwAt (("Program" : Str), some ("__init__" : Str)) "ticks" K) && emptyT K (kwAt (("Program" : Str), some ("__init__" : Str)) "live" K) && emptyT K (kwAt (("Program" : Str), some ("__init__" : Str)) "skips" K)⟩
theorem lok : L.ok = true := by decide +kernel
theorem lck : ckAll L.tb (L.rows.map RowD.row) fs = true := by decide +kernel
end Kk10
end
section
set_option autoImplicit false
set_option linter.all false
set_option maxRecDepth 100000
namespace Kk10
open TK PySem
abbrev gcK := L.gc
theorem g7 : gcK 0 = .int 7 := rfl
abbrev rK (n : Nat) : Gm := runF gcK fs n
section
variable {n : Nat} {r S : Sx}
theorem dr {m : Int} (hm : 0 < m) (hm2 : m < 1073741824) (h : Dr r S) : ∃ v S', rK (n + 1) 7 [.obj 1, .int m] S = .ok (.int v) S' ∧ Dr r S' ∧ 0 ≤ v ∧ v < m := draw (gc := gcK) (rest := own) hm hm2 h
theorem changes_dr {zs : List Int} (hz : Sizes zs) (h : Dr r S) : ∃ d S', rK (n + 2) 9 [.obj 1, .tup (zs.map .int)] S = .ok d S' ∧ Dr r S' ∧ isChg zs d := by
  show ∃ d S', runB gcK (rK (n + 1)) f_law_changes [.obj 1, .tup (zs.map .int)] S = .ok d S' ∧ Dr r S' ∧ isChg zs d
  obtain ⟨z1, z2, _⟩ := hz
  have zl : (0 : Int) < zs.length := by omega
  have zl2 : (zs.length : Int) < 1073741824 := by omega
  obtain ⟨k, S1, e1, d1, k1, k2⟩ := dr (n := n) (m := 3) (by omega) (by omega) h
  obtain ⟨l, S2, e2, d2, l2, p2⟩ := lc_draw (tg := .nm 2) (elt := (ev gcK (rK (n + 1)) (.tup (.cons (.call 7 0 (.cons (.v 0) (.cons (.b1 .len (.v 1)) .nil))) (.cons (.bin .add (.c (.int 1)) (.call 7 0 (.cons (.v 0) (.cons (.c (.int 3)) .nil)))) .nil)))).val) (cond := evc gcK (rK (n + 1)) .none) (sw := [some (.obj 1), some (.tup (zs.map .int)), none]) (r := r)
    (P := fun d => ∃ p : Nat × Int, d = .tup [.int p.1, .int p.2] ∧ p.1 < zs.length ∧ 1 ≤ p.2 ∧ p.2 ≤ 3) (fun _ _ => rfl) (ds := rngL 0 (1 + k)) (acc := []) d1 (by rw [len_rng]; simp; omega) (fun d hd => ⟨_, rfl, fun S hS => by
      obtain ⟨v, S1, e1, d1, v1, v2⟩ := dr (n := n) zl zl2 hS
      obtain ⟨u, S2, e2, d2, u1, u2⟩ := dr (n := n) (m := 3) (by omega) (by omega) d1
      obtain ⟨w, rfl⟩ := Int.eq_ofNat_of_zero_le v1
      refine ⟨.tup [.int w, .int (1 + u)], S2, ?_, d2, (w, 1 + u), rfl, by omega, by show 1 ≤ 1 + u; omega, by show 1 + u ≤ 3; omega⟩
      have : (2 : Nat) ≤ sizeLine := Nat.le_trans (by omega) szl
      simp [e1, e2, this]⟩)
  obtain ⟨q, hq⟩ : ∃ q : List (Nat × Int), l = (q.map fun p => .tup [.int p.1, .int p.2]) ∧ ∀ p ∈ q, p.1 < zs.length ∧ 1 ≤ p.2 ∧ p.2 ≤ 3 := by
    clear e2 l2
    induction l with
    | nil => exact ⟨[], rfl, by simp⟩
    | cons d l ih =>
      obtain ⟨q, rfl, hq⟩ := ih fun z hz => p2 z (List.mem_cons_of_mem _ hz)
      obtain ⟨p, rfl, hp⟩ := p2 d List.mem_cons_self
      exact ⟨p :: q, rfl, fun z hz => by
        rcases List.mem_cons.mp hz with rfl | hz
        · exact hp
        · exact hq z hz⟩
  obtain ⟨rfl, hq⟩ := hq
  have ql : q.length = (1 + k).toNat := by rw [List.length_map, len_rng] at l2; simpa using l2
  refine ⟨.tup (q.map fun p => .tup [.int p.1, .int p.2]), S2, ?_, d2, q, rfl, by omega, by omega, hq⟩
  have hsz : (q.map fun p => D.tup [.int p.1, .int p.2]).length ≤ sizeLine := Nat.le_trans (by simp; omega) szl
  unfold runB f_law_changes
  simp [startV, e1, rng_ok (k := 1 + k) (by omega) (by omega)]
  rw [e2]
  simp [newL_f hsz]
theorem pair_dr {zs : List Int} (hz : Sizes zs) {m : Int} (hm : 0 < m) (hm2 : m ≤ 8) (h : Dr r S) : ∃ d S', rK (n + 2) 10 [.obj 1, .tup (zs.map .int), .int m] S = .ok d S' ∧ Dr r S' ∧ isTab zs d := by
  show ∃ d S', runB gcK (rK (n + 1)) f_law_pair [.obj 1, .tup (zs.map .int), .int m] S = .ok d S' ∧ Dr r S' ∧ isTab zs d
  obtain ⟨z1, z2, z3⟩ := hz
  have zl : (0 : Int) < zs.length := by omega
  have zl2 : (zs.length : Int) < 1073741824 := by omega
  obtain ⟨v, S1, e1, d1, v1, v2⟩ := dr (n := n) zl zl2 h
  obtain ⟨w, rfl⟩ := Int.eq_ofNat_of_zero_le v1
  have wl : w < zs.length := by omega
  obtain ⟨k, hk⟩ : ∃ k, zs[w]? = some k := ⟨_, List.getElem?_eq_getElem wl⟩
  obtain ⟨k1, k2⟩ := z3 k (List.mem_of_getElem? hk)
  have e3 : (zs.map D.int)[w]? = some (.int k) := by rw [List.getElem?_map, hk] <;> rfl
  obtain ⟨l, S2, e2, d2, l2, p2⟩ := lc_draw (tg := .nm 4) (elt := (ev gcK (rK (n + 1)) (.call 7 0 (.cons (.v 0) (.cons (.v 2) .nil)))).val) (cond := evc gcK (rK (n + 1)) .none) (sw := [some (.obj 1), some (.tup (zs.map .int)), some (.int m), some (.int w), none]) (r := r)
    (P := fun d => ∃ i : Int, d = .int i ∧ (0 ≤ i ∧ i < m)) (fun _ _ => rfl) (ds := rngL 0 k) (acc := []) d1 (by rw [len_rng]; simp; omega) (fun d hd => ⟨_, rfl, fun S hS => by
      obtain ⟨v, S1, e1, d1, v1, v2⟩ := dr (n := n) hm (by omega) hS
      exact ⟨.int v, S1, by simp [e1], d1, v, rfl, v1, v2⟩⟩)
  obtain ⟨q, rfl, hq⟩ := ints_of p2
  have ql : q.length = k.toNat := by rw [List.length_map, len_rng] at l2; simpa using l2
  refine ⟨.tup [.int w, .tup (q.map .int)], S2, ?_, d2, w, q, rfl, by rw [hk, ql]; simp; omega, fun x hx => by have := hq x hx; omega⟩
  have hsz : (q.map D.int).length ≤ sizeLine := Nat.le_trans (by simp; omega) szl
  have h2 : (2 : Nat) ≤ sizeLine := Nat.le_trans (by omega) szl
  unfold runB f_law_pair
  simp [startV, e1, ix_tup, e3, rng_ok (k := k) (by omega) (by omega)]
  rw [e2]
  simp [newL_f hsz, h2]
theorem dct_ok {gc : Nat → D} {G : Gm} {ks : List L2.Key} {es : Es} {s : Vs} {S S' : Sx} {xs : List D} (h : (evs gc G es).vals s S = .ok xs S') (kl : xs.length = ks.length ∧ ks.length ≤ 15 ∧ ks.Nodup) : (ev gc G (.dct false ks es)).val s S = .ok (.dv ks xs) S' := by
  rw [ev_dct, h]
  simp only [R.bind_ok]
  rw [if_pos kl]
  rfl
/-- one part's text -/
def bPart : Sms := (.cons (.set 4 (.sub (.lst false (.cons (.c (.int 8)) (.cons (.c (.int 2)) (.cons (.c (.int 3)) .nil)))) (.call 7 0 (.cons (.v 0) (.cons (.c (.int 3)) .nil))))) (.cons (.set 5 (.call 10 0 (.cons (.v 0) (.cons (.v 1) (.cons (.v 4) .nil))))) (.cons (.set 6 (.call 10 0 (.cons (.v 0) (.cons (.v 1) (.cons (.v 4) .nil))))) (.cons (.set 7 (.ife (.cmp .eq (.call 7 0 (.cons (.v 0) (.cons (.c (.int 4)) .nil))) (.c (.int 0))) (.c .non) (.call 9 0 (.cons (.v 0) (.cons (.v 1) .nil))))) (.cons (.ex (.app (.v 3) (.tup (.cons (.v 5) (.cons (.v 6) (.cons (.v 7) .nil)))))) .nil)))))
theorem mosts {v : Int} (h1 : 0 ≤ v) (h2 : v < 3) : ∃ m : Int, L2.atI [D.int 8, D.int 2, D.int 3] v = some (.int m) ∧ 0 < m ∧ m ≤ 8 := by
  have : v = 0 ∨ v = 1 ∨ v = 2 := by omega
  rcases this with rfl | rfl | rfl
  · exact ⟨8, by simp, by omega, by omega⟩
  · exact ⟨2, by simp, by omega, by omega⟩
  · exact ⟨3, by simp, by omega, by omega⟩
theorem part_dr {zs : List Int} (hz : Sizes zs) {ps : List D} (hp : ∀ d ∈ ps, isPart zs d) (hl : ps.length < 1000) (h : Dr [.lst ps] S) {x2 x4 x5 x6 x7 y8 y9 y10 : Option D} : ∃ s2 S2 d, ess gcK (rK (n + 2)) bPart [some (.obj 1), some (.tup (zs.map .int)), x2, some (.obj 2), x4, x5, x6, x7, none, none, none] S = .ok (.nx s2) S2 ∧
    Dr [.lst (ps ++ [d])] S2 ∧ isPart zs d ∧ ∃ z4 z5 z6 z7, s2 = [some (.obj 1), some (.tup (zs.map .int)), x2, some (.obj 2), z4, z5, z6, z7, none, none, none] := by
  obtain ⟨v, S1, e1, d1, v1, v2⟩ := dr (n := n + 1) (m := 3) (by omega) (by omega) h
  obtain ⟨m, em, m1, m2⟩ := mosts v1 v2
  obtain ⟨a, S2, e2, d2, ha⟩ := pair_dr (n := n) hz m1 m2 d1
  obtain ⟨b, S3, e3, d3, hb⟩ := pair_dr (n := n) hz m1 m2 d2
  obtain ⟨u, S4, e4, d4, u1, u2⟩ := dr (n := n + 1) (m := 4) (by omega) (by omega) d3
  have h3 : (3 : Nat) ≤ sizeLine := Nat.le_trans (by omega) szl
  have key : ∃ p S5, (if u = 0 then R.ok D.non S4 else rK (n + 2) 9 [.obj 1, .tup (zs.map .int)] S4) = .ok p S5 ∧ Dr [.lst ps] S5 ∧ (p = .non ∨ isChg zs p) := by
    by_cases hu : u = 0
    · exact ⟨.non, S4, by simp [hu], d4, .inl rfl⟩
    · obtain ⟨p, S5, e5, d5, hp⟩ := changes_dr (n := n) hz d4
      exact ⟨p, S5, by simp [hu, e5], d5, .inr hp⟩
  obtain ⟨p, S5, e5, ⟨xs, c, s, rfl⟩, hpp⟩ := key
  have g2 : (St xs c s [.lst ps])[2]? = some (.lst ps) := rfl
  have hsz : ps.length < sizeLine := Nat.lt_of_lt_of_le (by omega) szl
  refine ⟨_, St xs c s [.lst (ps ++ [.tup [a, b, p]])], .tup [a, b, p], ?_, ⟨xs, c, s, rfl⟩, ⟨a, b, p, rfl, ha, hb, hpp⟩, some (.int m), some a, some b, some p, rfl⟩
  have e6 : appD (.obj 2) (.tup [a, b, p]) (St xs c s [.lst ps]) = .ok .non (St xs c s [.lst (ps ++ [.tup [a, b, p]])]) := (app_obj g2 hsz).trans rfl
  unfold bPart
  simp [e1, newL_f, h3, ix_lv, em, e2, e3, e4, e5, lst_obj g2, e6]
end
end Kk10
end
section
set_option autoImplicit false
set_option linter.all false
set_option maxRecDepth 100000
namespace Kk10
open TK PySem
theorem run_rt {gc : Nat → D} {G : Gm} {f : Fn} {xs : List D} {S S' : Sx} {d : D} (h0 : xs.length = f.np) (h : ess gc G f.body (startV f.nv xs) S = .ok (.rt d) S') : runB gc G f xs S = .ok d S' := by
  unfold runB
  rw [if_pos h0, h]
theorem ess7 {gc : Nat → D} {G : Gm} {a1 a2 a3 a4 a5 a6 a7 : Sm} {s s1 s2 s3 s4 s5 s6 : Vs} {S S1 S2 S3 S4 S5 S6 S7 : Sx} {d : D} (h1 : es gc G a1 s S = .ok (.nx s1) S1) (h2 : es gc G a2 s1 S1 = .ok (.nx s2) S2) (h3 : es gc G a3 s2 S2 = .ok (.nx s3) S3) (h4 : es gc G a4 s3 S3 = .ok (.nx s4) S4) (h5 : es gc G a5 s4 S4 = .ok (.nx s5) S5) (h6 : es gc G a6 s5 S5 = .ok (.nx s6) S6) (h7 : es gc G a7 s6 S6 = .ok (.rt d) S7) :
    ess gc G (.cons a1 (.cons a2 (.cons a3 (.cons a4 (.cons a5 (.cons a6 (.cons a7 .nil))))))) s S = .ok (.rt d) S7 := by
  simp only [ess_cons, h1, h2, h3, h4, h5, h6, h7, R.bind_ok]
section
variable {n : Nat} {r S : Sx}
def dSt1 : Sm := (.set 1 (.b1 .tuple (.lc false (.nm 2) (.rng .none (.bin .add (.c (.int 1)) (.call 7 0 (.cons (.v 0) (.cons (.c (.int 3)) .nil))))) .none (.bin .add (.c (.int 2)) (.call 7 0 (.cons (.v 0) (.cons (.c (.int 3)) .nil)))) [2])))
def dSt3 : Sm := (.for_ (.nm 2) (.rng .none (.bin .add (.c (.int 1)) (.call 7 0 (.cons (.v 0) (.cons (.c (.int 4)) .nil))))) (.cons (.set 4 (.sub (.lst false (.cons (.c (.int 8)) (.cons (.c (.int 2)) (.cons (.c (.int 3)) .nil)))) (.call 7 0 (.cons (.v 0) (.cons (.c (.int 3)) .nil))))) (.cons (.set 5 (.call 10 0 (.cons (.v 0) (.cons (.v 1) (.cons (.v 4) .nil))))) (.cons (.set 6 (.call 10 0 (.cons (.v 0) (.cons (.v 1) (.cons (.v 4) .nil))))) (.cons (.set 7 (.ife (.cmp .eq (.call 7 0 (.cons (.v 0) (.cons (.c (.int 4)) .nil))) (.c (.int 0))) (.c .non) (.call 9 0 (.cons (.v 0) (.cons (.v 1) .nil))))) (.cons (.ex (.app (.v 3) (.tup (.cons (.v 5) (.cons (.v 6) (.cons (.v 7) .nil)))))) .nil))))))
def dSt4 : Sm := (.set 8 (.b1 .tuple (.lc false (.nm 2) (.rng .none (.call 7 0 (.cons (.v 0) (.cons (.c (.int 3)) .nil)))) .none (.call 9 0 (.cons (.v 0) (.cons (.v 1) .nil))) [2])))
def dSt5 : Sm := (.set 9 (.b1 .tuple (.lc false (.nm 2) (.rng .none (.b1 .len (.v 3))) (.some (.cmp .eq (.call 7 0 (.cons (.v 0) (.cons (.c (.int 2)) .nil))) (.c (.int 0)))) (.v 2) [2])))
def dSt6 : Sm := (.set 10 (.b1 .tuple (.lc false (.nm 2) (.rng .none (.b1 .len (.v 3))) (.some (.cmp .eq (.call 7 0 (.cons (.v 0) (.cons (.c (.int 4)) .nil))) (.c (.int 0)))) (.v 2) [2])))
def dSt7 : Sm := (.ret (.dct false [.inr "sizes", .inr "parts", .inr "ticks", .inr "live", .inr "skips"] (.cons (.v 1) (.cons (.b1 .tuple (.v 3)) (.cons (.v 8) (.cons (.v 9) (.cons (.v 10) .nil)))))))
theorem keysP_nd : keysP.Nodup := by decide
theorem keysP_l : keysP.length ≤ 15 := by decide
theorem st7_ok {zs lv sk : List Int} {ps ts : List D} {x2 x4 x5 x6 x7 : Option D} {S8 : Sx} (tup2 : b1D .tuple (.obj 2) S8 = .ok (.tup ps) S8) : es gcK (rK (n + 2)) dSt7 [some (.obj 1), some (.tup (zs.map .int)), x2, some (.obj 2), x4, x5, x6, x7, some (.tup ts), some (.tup (lv.map .int)), some (.tup (sk.map .int))] S8 = .ok (.rt (.dv keysP [.tup (zs.map .int), .tup ps, .tup ts, .tup (lv.map .int), .tup (sk.map .int)])) S8 := by
  have kv := dct_ok (gc := gcK) (G := rK (n + 2)) (ks := keysP) (es := (.cons (.v 1) (.cons (.b1 .tuple (.v 3)) (.cons (.v 8) (.cons (.v 9) (.cons (.v 10) .nil)))))) (s := [some (.obj 1), some (.tup (zs.map .int)), x2, some (.obj 2), x4, x5, x6, x7, some (.tup ts), some (.tup (lv.map .int)), some (.tup (sk.map .int))]) (S := S8) (S' := S8) (xs := [.tup (zs.map .int), .tup ps, .tup ts, .tup (lv.map .int), .tup (sk.map .int)]) (by simp [tup2]) ⟨rfl, keysP_l, keysP_nd⟩
  show (((ev gcK (rK (n + 2)) (.dct false keysP (.cons (.v 1) (.cons (.b1 .tuple (.v 3)) (.cons (.v 8) (.cons (.v 9) (.cons (.v 10) .nil))))))).val _ _).bind fun d S => R.ok (Fl.rt d) S) = _
  rw [kv]
  rfl
theorem pick_ok {zs : List Int} {ps : List D} {x4 x5 x6 x7 : Option D} (hpl : ps.length ≤ 4) : ∀ (m : Int), 0 < m → m < 1073741824 → ∀ (y8 y9 : Option D) (S : Sx), Dr [.lst ps] S → ∃ (q : List Int) (S' : Sx), lcL (.nm 2) (evc gcK (rK (n + 2)) (.some (.cmp .eq (.call 7 0 (.cons (.v 0) (.cons (.c (.int m)) .nil))) (.c (.int 0))))) (ev gcK (rK (n + 2)) (.v 2)).val (fun _ => true) [some (.obj 1), some (.tup (zs.map .int)), none, some (.obj 2), x4, x5, x6, x7, y8, y9, none] (rngL 0 ps.length) [] S = .ok (q.map .int) S' ∧ Dr [.lst ps] S' ∧ Asc ps.length (-1) q ∧ q.length ≤ 1000000 := by
  intro m hm hm2 y8 y9 S hS
  obtain ⟨l, S', e, dS', sub⟩ := lc_pick (tg := .nm 2) (elt := (ev gcK (rK (n + 2)) (.v 2)).val) (cond := evc gcK (rK (n + 2)) (.some (.cmp .eq (.call 7 0 (.cons (.v 0) (.cons (.c (.int m)) .nil))) (.c (.int 0))))) (sw := [some (.obj 1), some (.tup (zs.map .int)), none, some (.obj 2), x4, x5, x6, x7, y8, y9, none]) (r := [.lst ps]) (ds := rngL 0 ps.length) (acc := []) hS (by rw [len_rng]; simp; omega) (fun d hd => ⟨_, rfl, fun S => by simp, fun S hS => by
    obtain ⟨v, S1, e1, d1, _⟩ := dr (n := n + 1) hm hm2 hS
    exact ⟨decide (v = 0), S1, by simp [e1], d1⟩⟩)
  have hln := sub.length_le
  rw [rng_eq (by omega)] at sub
  obtain ⟨q, rfl, hq⟩ := asc_pick (n := ps.length) (a := 0) (by simp) sub
  exact ⟨q, S', e, dS', hq, by rw [len_rng] at hln; simp at hln; omega⟩
theorem ps_len {k : Int} {ps : List D} (h1 : 0 ≤ k) (h2 : k < 4) (h : (ps.length : Int) = 1 + k) : 1 ≤ ps.length ∧ ps.length ≤ 4 := by omega
def v0 : Vs := [some (.obj 1), none, none, none, none, none, none, none, none, none, none]
def v1 (zs : List Int) : Vs := [some (.obj 1), some (.tup (zs.map .int)), none, none, none, none, none, none, none, none, none]
def v3 (zs : List Int) (x2 x4 x5 x6 x7 y8 y9 y10 : Option D) : Vs := [some (.obj 1), some (.tup (zs.map .int)), x2, some (.obj 2), x4, x5, x6, x7, y8, y9, y10]
theorem s1_ok (h : Dr [] S) : ∃ zs S', es gcK (rK (n + 2)) dSt1 v0 S = .ok (.nx (v1 zs)) S' ∧ Dr [] S' ∧ Sizes zs := by
  obtain ⟨k, S1, e1, d1, k1, k2⟩ := dr (n := n + 1) (m := 3) (by omega) (by omega) h
  obtain ⟨l, S2, e2, d2, l2, p2⟩ := lc_draw (tg := .nm 2) (elt := (ev gcK (rK (n + 2)) (.bin .add (.c (.int 2)) (.call 7 0 (.cons (.v 0) (.cons (.c (.int 3)) .nil))))).val) (cond := evc gcK (rK (n + 2)) .none) (sw := v0) (r := [])
    (P := fun d => ∃ i : Int, d = .int i ∧ (2 ≤ i ∧ i ≤ 4)) (fun _ _ => rfl) (ds := rngL 0 (1 + k)) (acc := []) d1 (by rw [len_rng]; simp; omega) (fun d hd => ⟨_, rfl, fun S hS => by
      obtain ⟨v, S1, e1, d1, v1, v2⟩ := dr (n := n + 1) (m := 3) (by omega) (by omega) hS
      exact ⟨.int (2 + v), S1, by simp [v0, e1], d1, 2 + v, rfl, by omega, by omega⟩⟩)
  obtain ⟨zs, rfl, hzs⟩ := ints_of p2
  have zl : zs.length = (1 + k).toNat := by rw [List.length_map, len_rng] at l2; simpa using l2
  have hsz : (zs.map D.int).length ≤ sizeLine := Nat.le_trans (by simp; omega) szl
  have r1 := @rng_ok (1 + k) S1 (by omega) (by omega)
  refine ⟨zs, S2, ?_, d2, by omega, by omega, hzs⟩
  unfold v0 at e2
  unfold dSt1 v0 v1
  simp [e1, r1]
  rw [e2]
  simp [newL_f hsz]
theorem loop_ok {zs : List Int} (hz : Sizes zs) (h : Dr [.lst []] S) {k : Int} (k1 : 0 ≤ k) (k2 : k < 4) : ∃ ps x2 x4 x5 x6 x7 S', forL (.nm 2) (fun _ => true) (ess gcK (rK (n + 2)) bPart) (rngL 0 (1 + k)) (v3 zs none none none none none none none none) S = .ok (.nx (v3 zs x2 x4 x5 x6 x7 none none none)) S' ∧ Dr [.lst ps] S' ∧ (∀ d ∈ ps, isPart zs d) ∧ 1 ≤ ps.length ∧ ps.length ≤ 4 := by
  obtain ⟨s4, S4, e4, ps, x2, x4, x5, x6, x7, rfl, d4, hps, lps⟩ := forL_dr (tg := .nm 2) (still := fun _ => true) (b := ess gcK (rK (n + 2)) bPart)
    (fun ds s S => ∃ (ps : List D) (x2 x4 x5 x6 x7 : Option D), s = v3 zs x2 x4 x5 x6 x7 none none none ∧ Dr [.lst ps] S ∧ (∀ d ∈ ps, isPart zs d) ∧ (ps.length : Int) + ds.length = 1 + k) (fun _ _ _ _ => rfl) (ds := rngL 0 (1 + k)) (s := v3 zs none none none none none none none none) (S := S)
    ⟨[], none, none, none, none, none, rfl, h, by simp, by rw [len_rng]; simp; omega⟩ (by
    rintro d ds s S ⟨ps, x2, x4, x5, x6, x7, rfl, dS, hps, hl⟩
    simp only [List.length_cons] at hl
    obtain ⟨s2, S2, e, q1, q2, q3, z4, z5, z6, z7, rfl⟩ := part_dr (n := n) hz hps (by omega) dS (x2 := some d) (x4 := x4) (x5 := x5) (x6 := x6) (x7 := x7) (y8 := none) (y9 := none) (y10 := none)
    refine ⟨_, _, S2, rfl, q1, ps ++ [e], some d, z4, z5, z6, z7, rfl, q2, fun y hy => ?_, ?_⟩
    · rcases List.mem_append.mp hy with hy | hy
      · exact hps y hy
      · rw [List.mem_singleton.mp hy]; exact q3
    · rw [List.length_append]; simp only [List.length_cons, List.length_nil]; omega)
  simp at lps
  exact ⟨ps, x2, x4, x5, x6, x7, S4, e4, d4, hps, by omega, by omega⟩
theorem s3_ok {zs : List Int} (hz : Sizes zs) (h : Dr [.lst []] S) : ∃ ps x2 x4 x5 x6 x7 S', es gcK (rK (n + 2)) dSt3 (v3 zs none none none none none none none none) S = .ok (.nx (v3 zs x2 x4 x5 x6 x7 none none none)) S' ∧ Dr [.lst ps] S' ∧ (∀ d ∈ ps, isPart zs d) ∧ 1 ≤ ps.length ∧ ps.length ≤ 4 := by
  obtain ⟨k, S3, e3, d3, k1, k2⟩ := dr (n := n + 1) (m := 4) (by omega) (by omega) h
  obtain ⟨ps, x2, x4, x5, x6, x7, S', e, q⟩ := loop_ok (n := n) hz d3 k1 k2
  refine ⟨ps, x2, x4, x5, x6, x7, S', ?_, q⟩
  have r2 := @rng_ok (1 + k) S3 (by omega) (by omega)
  show ((evi gcK (rK (n + 2)) (.rng .none (.bin .add (.c (.int 1)) (.call 7 0 (.cons (.v 0) (.cons (.c (.int 4)) .nil)))))) (v3 zs none none none none none none none none) S).bind (fun xs S => forL (.nm 2) xs.2 (ess gcK (rK (n + 2)) bPart) xs.1 (v3 zs none none none none none none none none) S) = _
  have e5 : (evi gcK (rK (n + 2)) (.rng .none (.bin .add (.c (.int 1)) (.call 7 0 (.cons (.v 0) (.cons (.c (.int 4)) .nil)))))) (v3 zs none none none none none none none none) S = .ok (rngL 0 (1 + k), fun _ => true) S3 := by
    unfold v3
    simp [e3, r2]
  rw [e5]
  exact e
theorem s4_ok {zs : List Int} (hz : Sizes zs) {ps : List D} {x2 x4 x5 x6 x7 : Option D} (h : Dr [.lst ps] S) : ∃ ts S', es gcK (rK (n + 2)) dSt4 (v3 zs x2 x4 x5 x6 x7 none none none) S = .ok (.nx (v3 zs x2 x4 x5 x6 x7 (some (.tup ts)) none none)) S' ∧ Dr [.lst ps] S' ∧ ts.length ≤ 2 ∧ ∀ d ∈ ts, isChg zs d := by
  obtain ⟨k3, S5, e5, d5, k31, k32⟩ := dr (n := n + 1) (m := 3) (by omega) (by omega) h
  obtain ⟨ts, S6, e6, d6, l6, p6⟩ := lc_draw (tg := .nm 2) (elt := (ev gcK (rK (n + 2)) (.call 9 0 (.cons (.v 0) (.cons (.v 1) .nil)))).val) (cond := evc gcK (rK (n + 2)) .none) (sw := [some (.obj 1), some (.tup (zs.map .int)), none, some (.obj 2), x4, x5, x6, x7, none, none, none]) (r := [.lst ps])
    (P := isChg zs) (fun _ _ => rfl) (ds := rngL 0 k3) (acc := []) d5 (by rw [len_rng]; simp; omega) (fun d hd => ⟨_, rfl, fun S hS => by
      obtain ⟨v, S1, e1, d1, v1⟩ := changes_dr (n := n) hz hS
      exact ⟨v, S1, by simp [e1], d1, v1⟩⟩)
  have tl : ts.length ≤ 2 := by rw [len_rng] at l6; omega
  have htl : ts.length ≤ sizeLine := Nat.le_trans (by omega) szl
  have r3 := @rng_ok k3 S5 (by omega) (by omega)
  refine ⟨ts, S6, ?_, d6, tl, p6⟩
  unfold dSt4 v3
  simp [e5, r3]
  rw [e6]
  simp [newL_f htl]
end
end Kk10
end
section
set_option autoImplicit false
set_option linter.all false
set_option maxRecDepth 100000
namespace Kk10
open TK PySem
theorem num5 {d e : D} {S : Sx} (h1 : Dat 5 d) (h2 : Dat 5 e) : cmpD .eq d e S = some (decide (d = e)) := by
  have := eqD_dat (S := S) (by omega) h1 h2
  simpa [cmpD] using this
theorem nne5 {d e : D} {S : Sx} (h1 : Dat 5 d) (h2 : Dat 5 e) : cmpD .ne d e S = some (!decide (d = e)) := by
  have := eqD_dat (S := S) (by omega) h1 h2
  simp [cmpD, this]
theorem dat_tup {n : Nat} {ds : List D} (h : ∀ d ∈ ds, Dat n d) : Dat (n + 1) (.tup ds) := h
def bare (p : PD) : PD := ⟨p.zs, p.ps, [], [], []⟩
theorem bare_ok {p : PD} (h : p.ok) : (bare p).ok := ⟨h.zs, h.ps, ⟨by show ([] : List D).length ≤ 2; simp, by intro d hd; cases hd⟩, trivial, trivial⟩
section
variable {n : Nat} {S : Sx} {p : PD}
theorem told_ok (h : p.ok) : rK (n + 6) 12 [.dv keysP p.vals] S = .ok (.tup [.str "made"]) S := by
  show runB gcK (rK (n + 5)) f_law_told [.dv keysP p.vals] S = _
  have := @prog_ok gcK own n S g7 p h
  unfold runB f_law_told
  simp only [PD.vals] at this
  have h1 : (1 : Nat) ≤ sizeLine := Nat.le_trans (by omega) szl
  simp [startV, dg_sizes, dg_parts, dg_ticks, dg_live, dg_skips]
  erw [this]
  simp [h1]
/-- a record of right data, by its word arguments -/
def dataE : Sms := .nil
theorem ne_ok {d : D} (h : Dat 5 d) : cmpD .ne d d S = some false := by rw [nne5 h h]; simp
theorem eq_ok {d : D} (h : Dat 5 d) : cmpD .eq d d S = some true := by rw [num5 h h]; simp
theorem dzs (h : p.ok) : Dat 4 (.tup (p.zs.map .int)) := h.dat _ (by simp [PD.vals])
theorem dps (h : p.ok) : Dat 4 (.tup p.ps) := h.dat _ (by simp [PD.vals])
theorem dts (h : p.ok) : Dat 4 (.tup p.ts) := h.dat _ (by simp [PD.vals])
theorem dlv (h : p.ok) : Dat 4 (.tup (p.lv.map .int)) := h.dat _ (by simp [PD.vals])
theorem dsk (h : p.ok) : Dat 4 (.tup (p.sk.map .int)) := h.dat _ (by simp [PD.vals])
def lSt3 : Sm := (.ite (.cmp .ne (.call 12 0 (.cons (.v 2) .nil)) (.tup (.cons (.c (.str "made")) .nil))) (.cons (.ret (.c (.bl false))) .nil) .nil)
def lSt4 : Sm := (.set 3 (.call 8 0 (.cons (.v 2) .nil)))
def lSt5 : Sm := (.ite (.cmp .ne (.tup (.cons (.fld 0 (.v 3) "sizes") (.cons (.fld 0 (.v 3) "parts") (.cons (.fld 0 (.v 3) "ticks") .nil)))) (.tup (.cons (.dget (.v 2) (.c (.str "sizes"))) (.cons (.dget (.v 2) (.c (.str "parts"))) (.cons (.dget (.v 2) (.c (.str "ticks"))) .nil))))) (.cons (.ret (.c (.bl false))) .nil) .nil)
def lSt6 : Sm := (.ite (.cmp .ne (.tup (.cons (.fld 0 (.v 3) "live") (.cons (.fld 0 (.v 3) "skips") .nil))) (.tup (.cons (.dget (.v 2) (.c (.str "live"))) (.cons (.dget (.v 2) (.c (.str "skips"))) .nil)))) (.cons (.ret (.c (.bl false))) .nil) .nil)
def lSt7 : Sm := (.set 4 (.newK 0 6 2 ["sizes", "parts"] [.tup [], .tup [], .tup []] (.cons (.dget (.v 2) (.c (.str "sizes"))) (.cons (.dget (.v 2) (.c (.str "parts"))) .nil))))
def lSt8 : Sm := (.ret (.cmp .eq (.tup (.cons (.fld 0 (.v 4) "sizes") (.cons (.fld 0 (.v 4) "parts") (.cons (.fld 0 (.v 4) "ticks") (.cons (.fld 0 (.v 4) "live") (.cons (.fld 0 (.v 4) "skips") .nil)))))) (.tup (.cons (.dget (.v 2) (.c (.str "sizes"))) (.cons (.dget (.v 2) (.c (.str "parts"))) (.cons (.tup .nil) (.cons (.tup .nil) (.cons (.tup .nil) .nil))))))))
def w (ns : List Int) (p : PD) (x3 x4 : Option D) : Vs := [some (.scr ns), some (.obj 1), some (.dv keysP p.vals), x3, x4]
variable {ns : List Int}
theorem le5 : (5 : Nat) ≤ sizeLine ∧ (3 : Nat) ≤ sizeLine ∧ (2 : Nat) ≤ sizeLine ∧ (1 : Nat) ≤ sizeLine ∧ (0 : Nat) ≤ sizeLine := by
  have := szl
  omega
theorem l3_ok (h : p.ok) : es gcK (rK (n + 6)) lSt3 (w ns p none none) S = .ok (.nx (w ns p none none)) S := by
  have := @told_ok n S p h
  have q := le5
  have ne : cmpD .ne (.tup [.str "made"]) (.tup [.str "made"]) S = some false := ne_ok (by
    intro d hd
    rw [List.mem_singleton.mp hd]
    show PyData.strOk _ = true
    decide +kernel)
  unfold lSt3 w
  simp [this, q.2.2.2.1, ne]
theorem l4_ok (h : p.ok) : es gcK (rK (n + 6)) lSt4 (w ns p none none) S = .ok (.nx (w ns p (some (.iv 0 fldN p.vals)) none)) S := by
  have : rK (n + 6) 8 [.dv keysP p.vals] S = .ok (.iv 0 fldN p.vals) S := made_ok (gc := gcK) (rest := own) g7 h
  unfold lSt4 w
  simp [this]
theorem l5_ok (h : p.ok) : es gcK (rK (n + 6)) lSt5 (w ns p (some (.iv 0 fldN p.vals)) none) S = .ok (.nx (w ns p (some (.iv 0 fldN p.vals)) none)) S := by
  have q := le5
  have ne : cmpD .ne (.tup [.tup (p.zs.map .int), .tup p.ps, .tup p.ts]) (.tup [.tup (p.zs.map .int), .tup p.ps, .tup p.ts]) S = some false := ne_ok (by
    intro d hd
    simp only [List.mem_cons, List.not_mem_nil, or_false] at hd
    rcases hd with rfl | rfl | rfl
    · exact dzs h
    · exact dps h
    · exact dts h)
  unfold lSt5 w
  simp [fd_sizes, fd_parts, fd_ticks, dg_sizes, dg_parts, dg_ticks, q.2.1, ne]
theorem l6_ok (h : p.ok) : es gcK (rK (n + 6)) lSt6 (w ns p (some (.iv 0 fldN p.vals)) none) S = .ok (.nx (w ns p (some (.iv 0 fldN p.vals)) none)) S := by
  have q := le5
  have ne : cmpD .ne (.tup [.tup (p.lv.map .int), .tup (p.sk.map .int)]) (.tup [.tup (p.lv.map .int), .tup (p.sk.map .int)]) S = some false := ne_ok (by
    intro d hd
    simp only [List.mem_cons, List.not_mem_nil, or_false] at hd
    rcases hd with rfl | rfl
    · exact dlv h
    · exact dsk h)
  unfold lSt6 w
  simp [fd_live, fd_skips, dg_live, dg_skips, q.2.2.1, ne]
theorem l7_ok (h : p.ok) : es gcK (rK (n + 5 + 1)) lSt7 (w ns p (some (.iv 0 fldN p.vals)) none) S = .ok (.nx (w ns p (some (.iv 0 fldN p.vals)) (some (.iv 0 fldN (bare p).vals)))) S := by
  have := @prog_ok gcK own (n + 1) S g7 (bare p) (bare_ok h)
  have e : (bare p).vals = [.tup (p.zs.map .int), .tup p.ps, .tup [], .tup [], .tup []] := rfl
  rw [e] at this
  rw [e]
  have t : wrp 2 S (newD 0 (rK (n + 5 + 1) 6) [.tup (p.zs.map .int), .tup p.ps, .tup [], .tup [], .tup []] S) = .ok (.iv 0 fldN [.tup (p.zs.map .int), .tup p.ps, .tup [], .tup [], .tup []]) S := this
  unfold lSt7 w
  simp [dg_sizes, dg_parts, t]
theorem l8_ok (h : p.ok) : es gcK (rK (n + 6)) lSt8 (w ns p (some (.iv 0 fldN p.vals)) (some (.iv 0 fldN (bare p).vals))) S = .ok (.rt (.bl true)) S := by
  have q := le5
  have b1 : fldD 0 (.iv 0 fldN (bare p).vals) "sizes" S = some (.tup (p.zs.map .int)) := rfl
  have b2 : fldD 0 (.iv 0 fldN (bare p).vals) "parts" S = some (.tup p.ps) := rfl
  have b3 : fldD 0 (.iv 0 fldN (bare p).vals) "ticks" S = some (.tup []) := rfl
  have b4 : fldD 0 (.iv 0 fldN (bare p).vals) "live" S = some (.tup []) := rfl
  have b5 : fldD 0 (.iv 0 fldN (bare p).vals) "skips" S = some (.tup []) := rfl
  have ne : cmpD .eq (.tup [.tup (p.zs.map .int), .tup p.ps, .tup [], .tup [], .tup []]) (.tup [.tup (p.zs.map .int), .tup p.ps, .tup [], .tup [], .tup []]) S = some true := eq_ok (by
    intro d hd
    simp only [List.mem_cons, List.not_mem_nil, or_false] at hd
    rcases hd with rfl | rfl | rfl | rfl | rfl
    · exact dzs h
    · exact dps h
    all_goals exact fun d hd => by cases hd)
  unfold lSt8 w
  simp [b1, b2, b3, b4, b5, dg_sizes, dg_parts, q.1, q.2.2.2.2, ne]
end
end Kk10
end
section
set_option autoImplicit false
set_option linter.all false
set_option maxRecDepth 100000
namespace Kk10
open TK PySem
section
variable {n : Nat} {r S : Sx}
theorem len2 {ps : List D} (h : Dr [.lst ps] S) : b1D .len (.obj 2) S = .ok (.int ps.length) S := by
  obtain ⟨xs, c, s, rfl⟩ := h
  exact b1_leno rfl
theorem tup2 {ps : List D} (h : Dr [.lst ps] S) : b1D .tuple (.obj 2) S = .ok (.tup ps) S := by
  obtain ⟨xs, c, s, rfl⟩ := h
  exact b1_tupo rfl
theorem pick_set {gc : Nat → D} {G : Gm} {i : Nat} {tg : Tg} {it : It} {cond : Eo} {elt : E} {vs : List Nat} {s sw s2 : Vs} {S S' : Sx} {xs zs : List D} {st : Sx → Bool} (h1 : (evi gc G it) s S = .ok (xs, st) S) (h2 : lcL tg (evc gc G cond) (ev gc G elt).val st sw xs [] S = .ok zs S') (h3 : zs.length ≤ sizeLine) (hw : wipeV s vs = sw) (hs : s.set i (some (.tup zs)) = s2) : es gc G (.set i (.b1 .tuple (.lc false tg it cond elt vs))) s S = .ok (.nx s2) S' := by
  rw [es_set, ev_b1, ev_lc, h1]
  simp only [R.bind_ok]
  rw [hw, h2]
  simp only [R.nox_ok, R.bind_ok, newL_f h3, b1_tup]
  rw [hs]
theorem s5_ok {zs : List Int} {ps ts : List D} {x2 x4 x5 x6 x7 : Option D} (h : Dr [.lst ps] S) (hl : ps.length ≤ 4) : ∃ lv S', es gcK (rK (n + 2)) dSt5 (v3 zs x2 x4 x5 x6 x7 (some (.tup ts)) none none) S = .ok (.nx (v3 zs x2 x4 x5 x6 x7 (some (.tup ts)) (some (.tup (lv.map .int))) none)) S' ∧ Dr [.lst ps] S' ∧ Asc ps.length (-1) lv := by
  obtain ⟨lv, S7, e7, d7, h7, l7⟩ := pick_ok (n := n) (zs := zs) (ps := ps) (x4 := x4) (x5 := x5) (x6 := x6) (x7 := x7) hl 2 (by omega) (by omega) (some (.tup ts)) none S h
  have hs7 : (lv.map D.int).length ≤ sizeLine := Nat.le_trans (by rw [List.length_map]; exact l7) szl
  have r4 := @rng_ok ps.length S (by omega) (by omega)
  refine ⟨lv, S7, ?_, d7, h7⟩
  have e5 : (evi gcK (rK (n + 2)) (.rng .none (.b1 .len (.v 3)))) (v3 zs x2 x4 x5 x6 x7 (some (.tup ts)) none none) S = .ok (rngL 0 ps.length, fun _ => true) S := by
    rw [evi_rng, evo_none, R.bind_ok, ev_b1, ev_v]
    show (R.bind (lift (some (D.obj 2)) S) fun x S => b1D .len x S).bind _ = _
    rw [lift_some, R.bind_ok, len2 h, R.bind_ok, r4]
  refine pick_set e5 e7 hs7 ?_ ?_
  · rfl
  · rfl
theorem s6_ok {zs lv : List Int} {ps ts : List D} {x2 x4 x5 x6 x7 : Option D} (h : Dr [.lst ps] S) (hl : ps.length ≤ 4) : ∃ sk S', es gcK (rK (n + 2)) dSt6 (v3 zs x2 x4 x5 x6 x7 (some (.tup ts)) (some (.tup (lv.map .int))) none) S = .ok (.nx (v3 zs x2 x4 x5 x6 x7 (some (.tup ts)) (some (.tup (lv.map .int))) (some (.tup (sk.map .int))))) S' ∧ Dr [.lst ps] S' ∧ Asc ps.length (-1) sk := by
  obtain ⟨sk, S8, e8, d8, h8, l8⟩ := pick_ok (n := n) (zs := zs) (ps := ps) (x4 := x4) (x5 := x5) (x6 := x6) (x7 := x7) hl 4 (by omega) (by omega) (some (.tup ts)) (some (.tup (lv.map .int))) S h
  have hs8 : (sk.map D.int).length ≤ sizeLine := Nat.le_trans (by rw [List.length_map]; exact l8) szl
  have r4 := @rng_ok ps.length S (by omega) (by omega)
  refine ⟨sk, S8, ?_, d8, h8⟩
  have e5 : (evi gcK (rK (n + 2)) (.rng .none (.b1 .len (.v 3)))) (v3 zs x2 x4 x5 x6 x7 (some (.tup ts)) (some (.tup (lv.map .int))) none) S = .ok (rngL 0 ps.length, fun _ => true) S := by
    rw [evi_rng, evo_none, R.bind_ok, ev_b1, ev_v]
    show (R.bind (lift (some (D.obj 2)) S) fun x S => b1D .len x S).bind _ = _
    rw [lift_some, R.bind_ok, len2 h, R.bind_ok, r4]
  refine pick_set e5 e8 hs8 ?_ ?_
  · rfl
  · rfl
theorem s2_ok {zs : List Int} (h : Dr [] S) : ∃ S', es gcK (rK (n + 2)) (.set 3 (.lst true .nil)) (v1 zs) S = .ok (.nx (v3 zs none none none none none none none none)) S' ∧ Dr [.lst []] S' := by
  obtain ⟨xs, c, s, rfl⟩ := h
  refine ⟨St xs c s [.lst []], ?_, xs, c, s, rfl⟩
  have nl : newL true [] (St xs c s []) = .ok (.obj 2) (St xs c s [.lst []]) := (newL_t (by simp)).trans rfl
  unfold v1 v3
  simp [nl]
def dBody : Sms := .cons dSt1 (.cons (.set 3 (.lst true .nil)) (.cons dSt3 (.cons dSt4 (.cons dSt5 (.cons dSt6 (.cons dSt7 .nil))))))
theorem data_eq : f_law_data = ⟨1, 11, dBody⟩ := rfl
theorem data_at : rK (n + 3) 11 = runB gcK (rK (n + 2)) ⟨1, 11, dBody⟩ := by
  rw [← data_eq]
  rfl
theorem data_st : startV 11 [D.obj 1] = v0 := rfl
theorem data_ok (h : Dr [] S) : ∃ p S', PD.ok p ∧ rK (n + 3) 11 [.obj 1] S = .ok (.dv keysP p.vals) S' := by
  obtain ⟨zs, S1, e1, d1, hz⟩ := s1_ok (n := n) h
  obtain ⟨S2, e2, d2⟩ := s2_ok (n := n) (zs := zs) d1
  obtain ⟨ps, x2, x4, x5, x6, x7, S3, e3, d3, hp, l1, l2⟩ := s3_ok (n := n) hz d2
  obtain ⟨ts, S4, e4, d4, h4⟩ := s4_ok (n := n) hz (x2 := x2) (x4 := x4) (x5 := x5) (x6 := x6) (x7 := x7) d3
  obtain ⟨lv, S5, e5, d5, h5⟩ := s5_ok (n := n) (zs := zs) (ts := ts) (x2 := x2) (x4 := x4) (x5 := x5) (x6 := x6) (x7 := x7) d4 l2
  obtain ⟨sk, S6, e6, d6, h6⟩ := s6_ok (n := n) (zs := zs) (ts := ts) (lv := lv) (x2 := x2) (x4 := x4) (x5 := x5) (x6 := x6) (x7 := x7) d5 l2
  have e7 := st7_ok (n := n) (zs := zs) (lv := lv) (sk := sk) (ps := ps) (ts := ts) (x2 := x2) (x4 := x4) (x5 := x5) (x6 := x6) (x7 := x7) (tup2 d6)
  refine ⟨⟨zs, ps, ts, lv, sk⟩, S6, ⟨hz, ⟨l1, l2, hp⟩, h4, h5, h6⟩, ?_⟩
  rw [data_at]
  refine run_rt rfl ?_
  show ess gcK (rK (n + 2)) dBody (startV 11 [D.obj 1]) S = _
  rw [data_st]
  exact ess7 e1 e2 e3 e4 e5 e6 e7
end
end Kk10
end
section
set_option autoImplicit false
set_option linter.all false
set_option maxRecDepth 100000
namespace Kk10
open TK PySem
theorem ess8 {gc : Nat → D} {G : Gm} {a1 a2 a3 a4 a5 a6 a7 a8 : Sm} {s s1 s2 s3 s4 s5 s6 s7 : Vs} {S S1 S2 S3 S4 S5 S6 S7 S8 : Sx} {d : D} (h1 : es gc G a1 s S = .ok (.nx s1) S1) (h2 : es gc G a2 s1 S1 = .ok (.nx s2) S2) (h3 : es gc G a3 s2 S2 = .ok (.nx s3) S3) (h4 : es gc G a4 s3 S3 = .ok (.nx s4) S4) (h5 : es gc G a5 s4 S4 = .ok (.nx s5) S5) (h6 : es gc G a6 s5 S5 = .ok (.nx s6) S6) (h7 : es gc G a7 s6 S6 = .ok (.nx s7) S7) (h8 : es gc G a8 s7 S7 = .ok (.rt d) S8) :
    ess gc G (.cons a1 (.cons a2 (.cons a3 (.cons a4 (.cons a5 (.cons a6 (.cons a7 (.cons a8 .nil)))))))) s S = .ok (.rt d) S8 := by
  simp only [ess_cons, h1, h2, h3, h4, h5, h6, h7, h8, R.bind_ok]
def lSt1 : Sm := (.set 1 (.lst true (.cons (.b1 (.list true) (.v 0)) (.cons (.c (.int 0)) (.cons (.c (.int 1)) .nil)))))
def lSt2 : Sm := (.set 2 (.call 11 0 (.cons (.v 1) .nil)))
def lBody : Sms := .cons lSt1 (.cons lSt2 (.cons lSt3 (.cons lSt4 (.cons lSt5 (.cons lSt6 (.cons lSt7 (.cons lSt8 .nil)))))))
theorem law_eq : f_law = ⟨1, 5, lBody⟩ := rfl
theorem law_at : rK 20 13 = runB gcK (rK 19) ⟨1, 5, lBody⟩ := by
  rw [← law_eq]
  rfl
def w0 (ns : List Int) : Vs := [some (.scr ns), none, none, none, none]
def w1 (ns : List Int) : Vs := [some (.scr ns), some (.obj 1), none, none, none]
theorem law_st {ns : List Int} : startV 5 [D.scr ns] = w0 ns := rfl
theorem l1_ok {ns : List Int} (h : ns.length ≤ 63) : es gcK (rK 19) lSt1 (w0 ns) [] = .ok (.nx (w1 ns)) (St ns 0 1 []) := by
  have e1 : newL true (ns.map .int) [] = .ok (.obj 0) [.lst (ns.map .int)] := (newL_t (Nat.le_trans (by rw [List.length_map]; omega) szl)).trans rfl
  have e2 : newL true [.obj 0, .int 0, .int 1] [.lst (ns.map .int)] = .ok (.obj 1) (St ns 0 1 []) := (newL_t (xs := [.obj 0, .int 0, .int 1]) (S := [.lst (ns.map .int)]) (le5.2.1)).trans rfl
  unfold lSt1 w0 w1
  simp [e1, e2]
theorem math (ns : List Int) (h : ns.length ≤ 63) : ∃ S, runF L.gc fs 20 13 [.scr ns] [] = .ok (.bl true) S := by
  have d0 : Dr [] (St ns 0 1 []) := ⟨ns, 0, 1, rfl⟩
  obtain ⟨p, S, hp, e⟩ := data_ok (n := 16) d0
  refine ⟨S, ?_⟩
  show rK 20 13 [.scr ns] [] = _
  rw [law_at]
  refine run_rt rfl ?_
  show ess gcK (rK 19) lBody (startV 5 [D.scr ns]) [] = _
  rw [law_st]
  have e2 : es gcK (rK 19) lSt2 (w1 ns) (St ns 0 1 []) = .ok (.nx (w ns p none none)) S := by
    have e : rK 19 11 [.obj 1] (St ns 0 1 []) = .ok (.dv keysP p.vals) S := e
    unfold lSt2 w1 w
    simp [e]
  exact ess8 (l1_ok h) e2 (l3_ok (n := 13) hp) (l4_ok (n := 13) hp) (l5_ok (n := 13) hp) (l6_ok (n := 13) hp) (l7_ok (n := 13) hp) (l8_ok (n := 13) hp)
end Kk10
end
section
set_option autoImplicit false
set_option linter.all false
set_option maxRecDepth 100000
set_option maxHeartbeats 0
namespace Kk10
open TK PySem L2 PySem.Spec PyProof.Rows
abbrev R : PySem.W.OpenRow := PySem.W.OpenLaw.row PySem.Challenge.rw_twoknowers_k10_programs_keep_what_was_pa
theorem run (w : World) : HandSHeadRun.RunEq R (PySem.W.view R.prog [21]) L.hk L.ob 2000 ["__name__", "KnowError", "BadProgram", "NotAllowed", "BadObserver", "MOST_NUMBER", "is_number", "are_numbers", "is_table", "are_changes", "are_parts", "are_indexes", "Program", "_law_next", "_law_changes", "_law_pair", "_law_data", "_law_made", "_law_told"] w := by
  intro os
  kernel_rfl
end Kk10
end
section
set_option autoImplicit false
set_option linter.all false
set_option maxRecDepth 100000
set_option maxHeartbeats 0
namespace Kk10
open TK PySem L2 PySem.Spec PyProof.Rows
theorem binds : ∀ k, k ∈ L.tb.pos → ∀ r, L.rows[k]? = some r → BindP r.d r.ps := by
  intro k hk r hr
  have hk : k ∈ tb.pos := hk
  simp only [tb, List.mem_cons, List.not_mem_nil, or_false] at hk
  rcases hk with rfl | rfl | rfl | rfl | rfl | rfl | rfl | rfl | rfl | rfl | rfl | rfl | rfl <;> (cases hr; refine ⟨rfl, fun _ _ _ _ _ _ us hl => ?_⟩) <;> first
    | (match us, hl with | [_], _ => rfl)
    | (match us, hl with | [_, _], _ => rfl)
    | (match us, hl with | [_, _, _], _ => rfl)
theorem kws (P : Program) (w : World) (K : PySem.W.Frag) (mg : Str → Option Value) (h : Heap) (c : He.SaysX L.fa L.fn [] L.tf L.ex w h K) (fdOf : Nat → FuncData) (base : Heap)
    (hfd : ∀ k r, L.rows[k]? = some r → FunD K r.d.name r.d.qual r.d.params r.d.body r.d.scope (r.d.dvs K) (r.d.kws K) (He.fAd K r.d.at_) (fdOf k)) : ∀ k kw dfl, (k, kw, dfl) ∈ L.tb.kws → ∃ r, L.rows[k]? = some r ∧ ∃ mvs gg, (∀ hs H m, RepL ((L.T P w K mg base).at hs) H m dfl mvs) ∧ KBn K (fdOf k) r.ps 1 kw gg (fun vs zs => vs ++ (zs ++ mvs)) := by
  intro k kw dfl hm
  have hm : (k, kw, dfl) ∈ tb.kws := hm
  have F := hfd 6 r6 rfl
  have more : L.ex K = true := c.more
  have e3 : ∀ x ∈ (["ticks", "live", "skips"] : List Str), emptyT K (kwAt (("Program" : Str), some ("__init__" : Str)) x K) = true := by
    simp only [L, Bool.and_eq_true] at more
    intro x hx
    simp only [List.mem_cons, List.not_mem_nil, or_false] at hx
    rcases hx with rfl | rfl | rfl
    · exact more.1.1
    · exact more.1.2
    · exact more.2
  simp only [tb, List.mem_cons, List.not_mem_nil, or_false, Prod.mk.injEq] at hm
  rcases hm with ⟨rfl, rfl, rfl⟩ | ⟨rfl, rfl, rfl⟩
  · refine ⟨r6, rfl, ?_⟩
    obtain ⟨mv, hk⟩ := FunD.kbinds0 (ps := r6.ps) F 1 ["sizes", "parts"] (r6.d.kws K) (fun us mv ws => us ++ (ws ++ mv)) (by intro h; cases h) (fun _ h => h) (fun a b d => a.append (d.append b)) (by
      intro D doc pm an cdv ct us mv ws h1 h2 h3
      match us, mv, ws, h1, h2, h3 with
      | [_], [_, _, _], [_, _], _, _, _ => exact ⟨_, _, _, _, _, _, rfl, rfl, _, _, _, _, _, _, rfl, rfl, _, _, _, _, _, _, rfl, rfl, rfl⟩)
    refine ⟨_, _, fun hs H m => ?_, hk⟩
    refine ⟨_, _, rfl, emptyT_rep (e3 "ticks" (by simp)) rfl H m, _, _, rfl, emptyT_rep (e3 "live" (by simp)) rfl H m, _, _, rfl, emptyT_rep (e3 "skips" (by simp)) rfl H m, rfl⟩
  · refine ⟨r6, rfl, ?_⟩
    obtain ⟨mv, hk⟩ := FunD.kbinds0 (ps := r6.ps) F 1 ["sizes", "parts", "ticks", "live", "skips"] [] (fun us mv ws => us ++ (ws ++ mv)) (by intro h; cases h) (fun _ h => by cases h) (fun a b d => a.append (d.append b)) (by
      intro D doc pm an cdv ct us mv ws h1 h2 h3
      match us, mv, ws, h1, h2, h3 with
      | [_], [], [_, _, _, _, _], _, _, _ => rfl)
    exact ⟨[], _, fun hs H m => rfl, hk⟩
end Kk10
open PySem PySem.W PySem.Calls PyProof.Rows
theorem PySem.Challenge.cw_twoknowers_k10_programs_keep_what_was_pa_holds : PySem.Challenge.rw_twoknowers_k10_programs_keep_what_was_pa.Holds := by
  w_on; o_law
  refine HandSHeadRun.head_any (r := OpenLaw.row PySem.Challenge.rw_twoknowers_k10_programs_keep_what_was_pa) (q := view (OpenLaw.row PySem.Challenge.rw_twoknowers_k10_programs_keep_what_was_pa).prog [21]) (H := Kk10.L.hk) (ob := Kk10.L.ob) (M := 2000) (loose := ["__name__", "KnowError", "BadProgram", "NotAllowed", "BadObserver", "MOST_NUMBER", "is_number", "are_numbers", "is_table", "are_changes", "are_parts", "are_indexes", "Program", "_law_next", "_law_changes", "_law_pair", "_law_data", "_law_made", "_law_told"]) (d := HandSHeadRun.topDef (OpenLaw.row PySem.Challenge.rw_twoknowers_k10_programs_keep_what_was_pa).prog 21) (kwd := []) Kk10.L.ob_eq
    (by kernel_rfl) (fun s => by kernel_rfl) Kk10.run (by kernel_rfl) (by kernel_rfl) (by kernel_rfl) (by rfl) (by first | assumption | decide +kernel) (by decide +kernel) ⟨rfl, rfl, rfl, rfl, rfl, by decide +kernel⟩ ?hw ?hc
  case hw => w_witness2
  case hc =>
    refine LamX.walk_ofTsE (l := PySem.Challenge.rw_twoknowers_k10_programs_keep_what_was_pa) (n := 63) (k := 40) (x := "_law_script") (CX := fun w => L2.CX PySem.Challenge.rw_twoknowers_k10_programs_keep_what_was_pa.prog w) rfl (by decide) (by kernel_rfl) ⟨rfl, by decide, by decide⟩ ?F (fun _ _ _ _ _ z => by
      obtain ⟨_, _, _, _, _, _, _, _, _, _, _, _, h⟩ := z
      exact h)
    intro w mg fa h Y G hmg0
    obtain ⟨K, KX, c⟩ := Y
    have hmg : mg ("law" : PySem.Str) = some (.ref fa) := by
      have e : (HandSHeadRun.topDef (OpenLaw.row PySem.Challenge.rw_twoknowers_k10_programs_keep_what_was_pa).prog 21).name = ("law" : PySem.Str) := by kernel_rfl
      rw [← e]
      exact hmg0
    exact ⟨K, KX, TK.law_of (n := 20) (kl := 13) (rl := Kk10.r13) Kk10.lok Kk10.lck KX G c Kk10.binds (fun fdOf base hfd => Kk10.kws _ w K mg h c fdOf base hfd) rfl rfl rfl (Kk10.binds 13 (by decide) _ rfl) hmg (List.mem_append_left _ (List.mem_map.mpr ⟨(("law" : PySem.Str), 13), List.mem_of_getElem? (i := 12) rfl, rfl⟩)) Kk10.math⟩
end
